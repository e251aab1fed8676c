import PyProof.Rows.All
import Wide.All
import OpenK.AllK
import Wide.FinOn
import HandS.ForMost
import HandS.ForExc
import HandS.CallSlots
import HandS.AnyAll
import HandS.Lambda
import HandS.HeadHook1
import HandS.ExcCtx
import HandS.HotCalls
import HandS.ExcIs
import HandS.IterVal
import HandS.TupLe
import HandS.TupAny
import HandS.Text
import HandS.Small
import HandS.Deep
import HandS.IsInst
import KE.DataEq
import HandS.NoneIn
import HandS.DictComp
import HandS.SortKw
import HandS.More
import HandS.StrMore
import HandS.RaiseMore
import HandS.Style
import HandS.Strs
import KE.KSuper
import HandS.ClsMeth
import HandS.Property
import KE.KNestM
import KE.KStateDown
import HandS.EndTab
import HandS.HeadWalk
import HandS.Head0
import HandS.Head1
import HandS.Head2
import HandS.HeadEnd
import HandS.HeadHook2
import HandS.HeadHook3
import PySem.Challenge.RW_batchends_k11_commands_of_clients
import KE.SortKeyHeap
import HandS.Codes
import PyProof.StrLawsFrom
import HandS.Conv
import PyProof.ReprBulk
import PyProof.Rows.ReprShort
import HandS.Defaults
set_option Elab.async false
set_option linter.all false
set_option maxRecDepth 100000
set_option maxHeartbeats 4000000
set_option autoImplicit false
section
set_option autoImplicit true
namespace M
open PySem PySem.Spec PyProof.Rows L2
inductive D where
  | non | bl (b : Bool) | int (i : Int) | str (s : Str) | ty (n : String) | fn (x : Str) | tup (ds : List D) | lst (ds : List D) | scr (ds : List D) | obj (k : Nat)
instance : Inhabited D := ⟨.non⟩
inductive Cell where
  | lst (ds : List D) | dct (kvs : List (Key × D)) | ins (c : Nat) (fs : List (Str × D))
  -- a dict that is walked: locked as the object o
  | lck (kvs : List (Key × D)) (o : Obj) (es : List (Key × V))
abbrev Env := List (Option D)
structure Sto where
  next : Nat
  cell : Nat → Option Cell
def Sto.put (μ : Sto) (k : Nat) (c : Cell) : Sto := ⟨μ.next, fun j => if j = k then some c else μ.cell j⟩
def Sto.new (μ : Sto) (c : Cell) : Sto := ⟨μ.next + 1, fun j => if j = μ.next then some c else μ.cell j⟩
def Sto.del (μ : Sto) (k : Nat) : Sto := ⟨μ.next, fun j => if j = k then none else μ.cell j⟩
theorem Sto.put_same {μ : Sto} {k : Nat} {c : Cell} : (μ.put k c).cell k = some c := if_pos rfl
theorem Sto.put_ne {μ : Sto} {k j : Nat} {c : Cell} (h : j ≠ k) : (μ.put k c).cell j = μ.cell j := if_neg h
theorem Sto.new_same {μ : Sto} {c : Cell} : (μ.new c).cell μ.next = some c := if_pos rfl
theorem Sto.new_ne {μ : Sto} {j : Nat} {c : Cell} (h : j ≠ μ.next) : (μ.new c).cell j = μ.cell j := if_neg h
theorem Sto.del_same {μ : Sto} {k : Nat} : (μ.del k).cell k = none := if_pos rfl
theorem Sto.del_ne {μ : Sto} {k j : Nat} (h : j ≠ k) : (μ.del k).cell j = μ.cell j := if_neg h
structure Wd where
  K : PySem.W.Frag
  T : List Addr
  cls : Nat → Addr
def Ext (G G' : Hp) : Prop := ∀ a o, G a = some o → G' a = some o ∨ ∃ ps ps' : Array Value, o = .tbl ps ∧ G' a = some (.tbl ps') ∧ (TriplesOk ps.toList → TriplesOk ps'.toList)
theorem Ext.refl (G : Hp) : Ext G G := fun _ _ h => .inl h
theorem Ext.trans {G G1 G2 : Hp} (a : Ext G G1) (b : Ext G1 G2) : Ext G G2 := fun p o h => by
  rcases a p o h with h1 | ⟨ps, ps1, e, h1, t1⟩
  · exact b p o h1
  · rcases b p _ h1 with h2 | ⟨ps2, ps3, e2, h2, t2⟩
    · exact .inr ⟨ps, ps1, e, h2, t1⟩
    · cases e2
      exact .inr ⟨ps, ps3, e, h2, fun t => t2 (t1 t)⟩
theorem Ext.of_ex {G G' : Hp} (h : ∀ a o, G a = some o → G' a = some o) : Ext G G' := fun a o e => .inl (h a o e)
theorem Ext.at {G G' : Hp} (e : Ext G G') {a : Addr} {o : HO} (h : G a = some o) (n : ∀ ps, o ≠ .tbl ps) : G' a = some o := by
  rcases e a o h with h1 | ⟨ps, _, e2, _, _⟩
  · exact h1
  · exact absurd e2 (n ps)
theorem Ext.rd {G G' : Hp} (e : Ext G G') {a : Addr} {o : HO} (h : Rd G a o) (n : ∀ ps, o ≠ .tbl ps) : Rd G' a o := by
  rcases h with h | ⟨ob, h⟩
  · exact .inl (e.at h n)
  · exact .inr ⟨ob, e.at h fun ps z => by cases z⟩
theorem Ext.sql {K : PySem.W.Frag} {G G' : Hp} (e : Ext G G') {a : Addr} {xs : List V} (h : SqL K G a xs) : SqL K G' a xs := by
  rcases h with h | h
  · exact .inl (e.rd h fun ps z => by cases z)
  · exact .inr h
theorem Ext.sqt {K : PySem.W.Frag} {G G' : Hp} (e : Ext G G') {a : Addr} {xs : List V} (h : SqT K G a xs) : SqT K G' a xs := by
  rcases h with h | h
  · exact .inl (e.rd h fun ps z => by cases z)
  · exact .inr h
structure Vw where
  G : Hp
  ρ : Nat → Addr
  n : Nat
def Vw.le (v v' : Vw) : Prop := Ext v.G v'.G ∧ (∀ k, k < v.n → v'.ρ k = v.ρ k) ∧ v.n ≤ v'.n
theorem Vw.le.refl (v : Vw) : v.le v := ⟨Ext.refl _, fun _ _ => rfl, Nat.le_refl _⟩
theorem Vw.le.trans {a b c : Vw} (h : a.le b) (g : b.le c) : a.le c :=
  ⟨h.1.trans g.1, fun k hk => (g.2.1 k (Nat.lt_of_lt_of_le hk h.2.2)).trans (h.2.1 k hk), Nat.le_trans h.2.2 g.2.2⟩
mutual
def Rep (K : PySem.W.Frag) (w : Vw) : D → V → Prop
  | .non, v => v = .non
  | .bl b, v => v = .bl b
  | .int i, v => v = .int i
  | .str s, v => v = .str s
  | .tup ds, v => ∃ a xs, v = .ref a ∧ SqT K w.G a xs ∧ Reps K w ds xs
  | .ty n, v => v = .ty n
  | .fn x, v => v = .ref (He.ga K x)
  | .lst ds, v => ∃ a xs, v = .ref a ∧ w.G a = some (.lst xs) ∧ Reps K w ds xs
  | .scr ds, v => ∃ a xs, v = .ref a ∧ SqL K w.G a xs ∧ Reps K w ds xs
  | .obj k, v => k < w.n ∧ v = .ref (w.ρ k)
def Reps (K : PySem.W.Frag) (w : Vw) : List D → List V → Prop
  | [], xs => xs = []
  | d :: ds, xs => ∃ x r, xs = x :: r ∧ Rep K w d x ∧ Reps K w ds r
end
def RepP {κ : Type} (K : PySem.W.Frag) (w : Vw) : List (κ × D) → List (κ × V) → Prop
  | [], xs => xs = []
  | (k, d) :: ds, xs => ∃ x r, xs = (k, x) :: r ∧ Rep K w d x ∧ RepP K w ds r
section
variable {K : PySem.W.Frag} {w w' : Vw}
mutual
theorem Rep.mono (l : w.le w') : ∀ {d : D} {v : V}, Rep K w d v → Rep K w' d v
  | .non, _, h => h
  | .bl _, _, h => h
  | .int _, _, h => h
  | .str _, _, h => h
  | .tup _, _, ⟨a, xs, e, s, r⟩ => ⟨a, xs, e, l.1.sqt s, Reps.mono l r⟩
  | .ty _, _, h => h
  | .fn _, _, h => h
  | .lst _, _, ⟨a, xs, e, s, r⟩ => ⟨a, xs, e, l.1.at s (fun _ z => by cases z), Reps.mono l r⟩
  | .scr _, _, ⟨a, xs, e, s, r⟩ => ⟨a, xs, e, l.1.sql s, Reps.mono l r⟩
  | .obj k, _, ⟨h, e⟩ => ⟨Nat.lt_of_lt_of_le h l.2.2, by rw [l.2.1 k h]; exact e⟩
theorem Reps.mono (l : w.le w') : ∀ {ds : List D} {xs : List V}, Reps K w ds xs → Reps K w' ds xs
  | [], _, h => h
  | _ :: _, _, ⟨x, r, e, h, t⟩ => ⟨x, r, e, Rep.mono l h, Reps.mono l t⟩
end
theorem RepP.mono {κ : Type} (l : w.le w') : ∀ {ds : List (κ × D)} {xs : List (κ × V)}, RepP K w ds xs → RepP K w' ds xs
  | [], _, h => h
  | (_, _) :: _, _, ⟨x, r, e, h, t⟩ => ⟨x, r, e, h.mono l, RepP.mono l t⟩
theorem Reps.length : ∀ {ds : List D} {xs : List V}, Reps K w ds xs → xs.length = ds.length
  | [], _, h => by rw [show _ = [] from h]; rfl
  | _ :: _, _, ⟨x, r, e, _, t⟩ => by rw [e, List.length_cons, List.length_cons, Reps.length t]
theorem Reps.append : ∀ {ds es : List D} {xs ys : List V}, Reps K w ds xs → Reps K w es ys → Reps K w (ds ++ es) (xs ++ ys)
  | [], _, _, _, h, g => by rw [show _ = [] from h]; exact g
  | _ :: _, _, _, _, ⟨x, r, e, h, t⟩, g => ⟨x, r ++ _, by rw [e]; rfl, h, Reps.append t g⟩
theorem Reps.take : ∀ (n : Nat) {ds : List D} {xs : List V}, Reps K w ds xs → Reps K w (ds.take n) (xs.take n)
  | 0, _, _, _ => by rw [List.take_zero, List.take_zero]; rfl
  | _ + 1, [], _, h => by rw [show _ = [] from h]; rfl
  | n + 1, _ :: _, _, ⟨x, r, e, h, t⟩ => by rw [e]; exact ⟨x, r.take n, rfl, h, Reps.take n t⟩
theorem Reps.drop : ∀ (n : Nat) {ds : List D} {xs : List V}, Reps K w ds xs → Reps K w (ds.drop n) (xs.drop n)
  | 0, _, _, h => h
  | _ + 1, [], _, h => by rw [show _ = [] from h]; rfl
  | n + 1, _ :: _, _, ⟨x, r, e, h, t⟩ => by rw [e]; exact Reps.drop n t
theorem Reps.get : ∀ {ds : List D} {xs : List V} {i : Nat} {d : D}, Reps K w ds xs → ds[i]? = some d → ∃ v, xs[i]? = some v ∧ Rep K w d v
  | [], _, _, _, _, e => by simp at e
  | _ :: _, _, 0, _, ⟨x, r, e, h, t⟩, ed => by
    have ed' := Option.some.inj ed
    subst ed'
    exact ⟨x, by rw [e]; rfl, h⟩
  | _ :: _, _, i + 1, d, ⟨x, r, e, h, t⟩, ed => by
    obtain ⟨v, ev, rv⟩ := Reps.get (i := i) t ed
    exact ⟨v, by rw [e]; exact ev, rv⟩
theorem Reps.get' {ds : List D} {xs : List V} {i : Nat} {v : V} (h : Reps K w ds xs) (e : xs[i]? = some v) : ∃ d, ds[i]? = some d ∧ Rep K w d v := by
  have hi : i < ds.length := by
    rw [← h.length]
    exact (List.getElem?_eq_some_iff.mp e).1
  obtain ⟨u, eu, ru⟩ := h.get (List.getElem?_eq_getElem hi)
  rw [e] at eu
  cases eu
  exact ⟨_, List.getElem?_eq_getElem hi, ru⟩
theorem Reps.set : ∀ (i : Nat) {ds : List D} {xs : List V} {d : D} {v : V}, Reps K w ds xs → Rep K w d v → Reps K w (ds.set i d) (xs.set i v)
  | _, [], _, _, _, h, _ => by rw [show _ = [] from h]; rfl
  | 0, _ :: _, _, _, v, ⟨x, r, e, h, t⟩, g => by rw [e]; exact ⟨v, r, rfl, g, t⟩
  | i + 1, _ :: _, _, _, _, ⟨x, r, e, h, t⟩, g => by rw [e]; exact ⟨x, _, rfl, h, Reps.set i t g⟩
theorem Reps.one {d : D} {v : V} (h : Rep K w d v) : Reps K w [d] [v] := ⟨v, [], rfl, h, rfl⟩
theorem Reps.inv1 {d : D} {xs : List V} (h : Reps K w [d] xs) : ∃ x, xs = [x] ∧ Rep K w d x := by
  obtain ⟨x, r, e, h1, h2⟩ := h
  have e2 : r = [] := h2
  subst e2
  exact ⟨x, e, h1⟩
theorem Reps.inv2 {d e : D} {xs : List V} (h : Reps K w [d, e] xs) : ∃ x y, xs = [x, y] ∧ Rep K w d x ∧ Rep K w e y := by
  obtain ⟨x, r, e, h1, h2⟩ := h
  obtain ⟨y, e2, h3⟩ := Reps.inv1 h2
  subst e2
  exact ⟨x, y, e, h1, h3⟩
end
structure Ss where
  ρ : Nat → Addr
  μ : Sto
  H : Hp
  pv : Hp
def Ss.own (S : Ss) (a : Addr) : Prop := (∃ k c, S.μ.cell k = some c ∧ S.ρ k = a) ∨ ∃ o, S.pv a = some o
noncomputable def hid (S : Ss) : Hp := fun a => @ite _ (S.own a) (Classical.propDecidable _) none (S.H a)
theorem hid_some {S : Ss} {a : Addr} {o : HO} : hid S a = some o ↔ S.H a = some o ∧ ¬ S.own a := by
  unfold hid
  by_cases h : S.own a
  · rw [if_pos h]
    exact Iff.intro (fun z => by cases z) (fun z => absurd h z.2)
  · rw [if_neg h]
    exact ⟨fun z => ⟨z, h⟩, fun z => z.1⟩
theorem hid_ex {S : Ss} {a : Addr} {o : HO} (h : hid S a = some o) : S.H a = some o := (hid_some.mp h).1
theorem hid_ext {S : Ss} : Ext (hid S) S.H := Ext.of_ex fun _ _ h => hid_ex h
noncomputable def Ss.vw (S : Ss) : Vw := ⟨hid S, S.ρ, S.μ.next⟩
def Ss.le (S S' : Ss) : Prop := S.vw.le S'.vw ∧ S'.pv = S.pv
theorem Ss.le.refl (S : Ss) : S.le S := ⟨Vw.le.refl _, rfl⟩
theorem Ss.le.trans {a b c : Ss} (h : a.le b) (g : b.le c) : a.le c := ⟨h.1.trans g.1, g.2.trans h.2⟩
def CellOk (W : Wd) (w : Vw) (H : Hp) (a : Addr) : Cell → Prop
  | .lst ds => ∃ xs, H a = some (.lst xs) ∧ Reps W.K w ds xs
  | .dct kvs => ∃ es, H a = some (.dK es) ∧ RepP W.K w kvs es
  | .ins c fs => ∃ dx es, H a = some (.ins (W.cls c) dx es) ∧ RepP W.K w fs es
  | .lck kvs o es => H a = some (.frz o (.dK es)) ∧ RepP W.K w kvs es
theorem CellOk.mono {W : Wd} {w w' : Vw} {H H' : Hp} {a : Addr} {c : Cell} (h : CellOk W w H a c) (l : w.le w') (e : H' a = H a) : CellOk W w' H' a c := by
  cases c with
  | lst ds => obtain ⟨xs, e1, r⟩ := h; exact ⟨xs, e.trans e1, r.mono l⟩
  | dct kvs => obtain ⟨xs, e1, r⟩ := h; exact ⟨xs, e.trans e1, r.mono l⟩
  | ins c fs => obtain ⟨dx, xs, e1, r⟩ := h; exact ⟨dx, xs, e.trans e1, r.mono l⟩
  | lck kvs o es => obtain ⟨e1, r⟩ := h; exact ⟨e.trans e1, r.mono l⟩
theorem CellOk.some {W : Wd} {w : Vw} {H : Hp} {a : Addr} {c : Cell} (h : CellOk W w H a c) : ∃ o, H a = some o ∧ ∀ ps, o ≠ .tbl ps := by
  cases c with
  | lst ds => obtain ⟨xs, e1, r⟩ := h; exact ⟨_, e1, fun _ z => by cases z⟩
  | dct kvs => obtain ⟨xs, e1, r⟩ := h; exact ⟨_, e1, fun _ z => by cases z⟩
  | ins c fs => obtain ⟨dx, xs, e1, r⟩ := h; exact ⟨_, e1, fun _ z => by cases z⟩
  | lck kvs o es => exact ⟨_, h.1, fun _ z => by cases z⟩
def lamQ : Str := "put.<locals>.<lambda>"
structure Rl (W : Wd) (S : Ss) : Prop where
  inj : ∀ k j c d, S.μ.cell k = some c → S.μ.cell j = some d → S.ρ k = S.ρ j → k = j
  lt : ∀ k c, S.μ.cell k = some c → k < S.μ.next
  ok : ∀ k c, S.μ.cell k = some c → CellOk W S.vw S.H (S.ρ k) c
  tab : ∀ a ∈ W.T, GxR.TabG (hid S) a
  prv : ∀ a o, S.pv a = some o → S.H a = some o ∧ ∀ k c, S.μ.cell k = some c → S.ρ k ≠ a
  -- the table of the one def that makes a lambda
  lam : W.cls 1000 ≠ 0 → W.cls 1000 ∉ W.T ∧ LamX.TabS (hid S) (W.cls 1000) lamQ
def EnvR (W : Wd) (w : Vw) (δ : Env) (σ : L2.St) : Prop := δ.length = σ.length ∧ ∀ (i : Nat) (d : D), δ[i]? = some (some d) → ∃ v, σ[i]? = some (some v) ∧ Rep W.K w d v
theorem EnvR.mono {W : Wd} {w w' : Vw} {δ : Env} {σ : L2.St} (h : EnvR W w δ σ) (l : w.le w') : EnvR W w' δ σ :=
  ⟨h.1, fun i d e => let ⟨v, ev, r⟩ := h.2 i d e; ⟨v, ev, r.mono l⟩⟩
theorem EnvR.set {W : Wd} {w : Vw} {δ : Env} {σ : L2.St} {i : Nat} {d : D} {v : V} (h : EnvR W w δ σ) (r : Rep W.K w d v) : EnvR W w (δ.set i (some d)) (σ.set i (some v)) := by
  refine ⟨by rw [List.length_set, List.length_set, h.1], fun j e hj => ?_⟩
  by_cases hi : i = j
  · subst hi
    have hl : i < δ.length := by
      have := (List.getElem?_eq_some_iff.mp hj).1
      rw [List.length_set] at this
      exact this
    rw [List.getElem?_set_self hl] at hj
    cases hj
    exact ⟨v, List.getElem?_set_self (by rw [← h.1]; exact hl), r⟩
  · rw [List.getElem?_set_ne hi] at hj
    obtain ⟨u, eu, ru⟩ := h.2 j e hj
    exact ⟨u, by rw [List.getElem?_set_ne hi]; exact eu, ru⟩
section
variable {W : Wd} {S : Ss} {p : Addr} {o : HO}
theorem Rl.live (R : Rl W S) {k : Nat} {c : Cell} (h : S.μ.cell k = some c) : ∃ o, S.H (S.ρ k) = some o := let ⟨o, e, _⟩ := (R.ok k c h).some; ⟨o, e⟩
theorem lam_ex {W : Wd} {G G' : Hp} (h : W.cls 1000 ≠ 0 → W.cls 1000 ∉ W.T ∧ LamX.TabS G (W.cls 1000) lamQ) (e : ∀ a o, G a = some o → G' a = some o) : W.cls 1000 ≠ 0 → W.cls 1000 ∉ W.T ∧ LamX.TabS G' (W.cls 1000) lamQ := fun z => ⟨(h z).1, (h z).2.ext e⟩
theorem Rl.tabG (R : Rl W S) {a : Addr} (h : a ∈ W.T) : GxR.TabG S.H a := by
  obtain ⟨ps, e, t⟩ := R.tab a h
  exact ⟨ps, hid_ex e, t⟩
theorem tab_ext {G G' : Hp} (e : Ext G G') {a : Addr} (h : GxR.TabG G a) : GxR.TabG G' a := by
  obtain ⟨ps, h1, t⟩ := h
  rcases e a _ h1 with h2 | ⟨qs, qs', e2, h2, t2⟩
  · exact ⟨ps, h2, t⟩
  · cases e2
    exact ⟨qs', h2, t2 t⟩
theorem Rl.owned (R : Rl W S) {a : Addr} (h : S.own a) : ∃ o, S.H a = some o := by
  rcases h with ⟨k, c, h, e⟩ | ⟨o, h⟩
  · obtain ⟨o, e2⟩ := R.live h
    exact ⟨o, by rw [← e]; exact e2⟩
  · exact ⟨o, (R.prv a o h).1⟩
theorem Rl.fresh (R : Rl W S) (hp : S.H p = none) : Ss.le S { S with H := upd S.H p o } ∧ Rl W { S with H := upd S.H p o } ∧ hid { S with H := upd S.H p o } p = some o := by
  have ne : ∀ {a}, S.own a → a ≠ p := fun {a} h z => by
    obtain ⟨u, e⟩ := R.owned h
    rw [z, hp] at e
    cases e
  have ex : ∀ a u, hid S a = some u → hid { S with H := upd S.H p o } a = some u := fun a u h => by
    obtain ⟨h1, h2⟩ := hid_some.mp h
    exact hid_some.mpr ⟨(upd_ne (ne_of_none h1 hp)).trans h1, h2⟩
  have l : Ss.le S { S with H := upd S.H p o } := ⟨⟨Ext.of_ex ex, fun _ _ => rfl, Nat.le_refl _⟩, rfl⟩
  exact ⟨l, ⟨R.inj, R.lt, fun k c h => (R.ok k c h).mono l.1 (upd_ne (ne (.inl ⟨k, c, h, rfl⟩))), fun a ha => tab_ext l.1.1 (R.tab a ha), fun a u h => ⟨(upd_ne (ne (.inr ⟨u, h⟩))).trans (R.prv a u h).1, (R.prv a u h).2⟩, lam_ex R.lam ex⟩,
    hid_some.mpr ⟨upd_same, fun z => ne z rfl⟩⟩
theorem hid_same {S' : Ss} (h1 : ∀ a, S'.own a ↔ S.own a) (h2 : ∀ a, ¬ S.own a → S'.H a = S.H a) : hid S' = hid S := by
  funext a
  unfold hid
  by_cases h : S.own a
  · rw [if_pos h, if_pos ((h1 a).mpr h)]
  · rw [if_neg h, if_neg (fun z => h ((h1 a).mp z))]
    exact h2 a h
theorem own_put {k : Nat} {c c' : Cell} {H' : Hp} (h : S.μ.cell k = some c) (a : Addr) : Ss.own { S with μ := S.μ.put k c', H := H' } a ↔ S.own a := by
  unfold Ss.own
  constructor
  · rintro (⟨j, d, h1, h2⟩ | h1)
    · by_cases hj : j = k
      · exact .inl ⟨k, c, h, by rw [← hj]; exact h2⟩
      · exact .inl ⟨j, d, by rw [← Sto.put_ne hj]; exact h1, h2⟩
    · exact .inr h1
  · rintro (⟨j, d, h1, h2⟩ | h1)
    · by_cases hj : j = k
      · exact .inl ⟨k, c', Sto.put_same, by rw [← hj]; exact h2⟩
      · exact .inl ⟨j, d, by rw [← h1]; exact Sto.put_ne hj, h2⟩
    · exact .inr h1
theorem Rl.put {k : Nat} {c c' : Cell} (R : Rl W S) (h : S.μ.cell k = some c) (n : CellOk W S.vw (upd S.H (S.ρ k) o) (S.ρ k) c') :
    Ss.le S { S with μ := S.μ.put k c', H := upd S.H (S.ρ k) o } ∧ Rl W { S with μ := S.μ.put k c', H := upd S.H (S.ρ k) o } := by
  have eh : hid { S with μ := S.μ.put k c', H := upd S.H (S.ρ k) o } = hid S := hid_same (own_put h) fun a ha => upd_ne fun z => ha (.inl ⟨k, c, h, z.symm⟩)
  have ev : Ss.vw { S with μ := S.μ.put k c', H := upd S.H (S.ρ k) o } = S.vw := by
    unfold Ss.vw
    rw [eh]
    rfl
  refine ⟨⟨by rw [ev]; exact Vw.le.refl _, rfl⟩, ?_⟩
  have old : ∀ {j d}, (S.μ.put k c').cell j = some d → ∃ d', S.μ.cell j = some d' := fun {j d} e => by
    by_cases hj : j = k
    · exact ⟨c, by rw [hj]; exact h⟩
    · rw [Sto.put_ne hj] at e
      exact ⟨d, e⟩
  refine ⟨fun i j d e h1 h2 h3 => ?_, fun j d e => ?_, fun j d e => ?_, fun a ha => ?_, fun a u e => ⟨?_, fun j d e2 => ?_⟩, by rw [eh]; exact R.lam⟩
  · obtain ⟨d', h1'⟩ := old h1
    obtain ⟨e', h2'⟩ := old h2
    exact R.inj i j d' e' h1' h2' h3
  · obtain ⟨d', h1'⟩ := old e
    exact R.lt j d' h1'
  · rw [ev]
    by_cases hj : j = k
    · subst hj
      rw [show (S.μ.put j c').cell j = _ from Sto.put_same] at e
      cases e
      exact n
    · rw [show (S.μ.put k c').cell j = _ from Sto.put_ne hj] at e
      refine (R.ok j d e).mono (Vw.le.refl _) (upd_ne fun z => hj ?_)
      exact R.inj j k d c e h z
  · rw [eh]
    exact R.tab a ha
  · exact (upd_ne fun z => (R.prv a u e).2 k c h z.symm).trans (R.prv a u e).1
  · obtain ⟨d', e3⟩ := old e2
    exact (R.prv a u e).2 j d' e3
def newρ (ρ : Nat → Addr) (n : Nat) (p : Addr) : Nat → Addr := fun k => if k = n then p else ρ k
theorem newρ_same {ρ : Nat → Addr} {n : Nat} {p : Addr} : newρ ρ n p n = p := if_pos rfl
theorem newρ_ne {ρ : Nat → Addr} {n j : Nat} {p : Addr} (h : j ≠ n) : newρ ρ n p j = ρ j := if_neg h
theorem Rl.new {c : Cell} {H' : Hp} (R : Rl W S) (hp : S.H p = none) (hH : ∀ a, a ≠ p → S.H a ≠ none → H' a = S.H a) (hx : ∀ a o, hid S a = some o → H' a = some o) (n : CellOk W ⟨hid S, newρ S.ρ S.μ.next p, S.μ.next + 1⟩ H' p c) :
    Ss.le S { S with ρ := newρ S.ρ S.μ.next p, μ := S.μ.new c, H := H' } ∧ Rl W { S with ρ := newρ S.ρ S.μ.next p, μ := S.μ.new c, H := H' } := by
  have lt : ∀ {j d}, S.μ.cell j = some d → j ≠ S.μ.next := fun {j d} e => Nat.ne_of_lt (R.lt j d e)
  have nep : ∀ {a}, S.own a → a ≠ p := fun {a} h z => by
    obtain ⟨u, e2⟩ := R.owned h
    rw [z, hp] at e2
    cases e2
  have cs : ∀ {j d}, (S.μ.new c).cell j = some d → (j = S.μ.next ∧ d = c) ∨ (j ≠ S.μ.next ∧ S.μ.cell j = some d) := fun {j d} e => by
    by_cases hj : j = S.μ.next
    · subst hj
      rw [Sto.new_same] at e
      cases e
      exact .inl ⟨rfl, rfl⟩
    · rw [Sto.new_ne hj] at e
      exact .inr ⟨hj, e⟩
  have ex : ∀ a u, hid S a = some u → hid { S with ρ := newρ S.ρ S.μ.next p, μ := S.μ.new c, H := H' } a = some u := fun a u h => by
    refine hid_some.mpr ⟨hx a u h, ?_⟩
    rintro (⟨j, d, h1, h2⟩ | h1)
    · rcases cs h1 with ⟨e1, _⟩ | ⟨n1, e1⟩
      · have h2 : newρ S.ρ S.μ.next p j = a := h2
        rw [e1, newρ_same] at h2
        have := hid_ex h
        rw [← h2, hp] at this
        cases this
      · have h2 : newρ S.ρ S.μ.next p j = a := h2
        rw [newρ_ne n1] at h2
        exact (hid_some.mp h).2 (.inl ⟨j, d, e1, h2⟩)
    · exact (hid_some.mp h).2 (.inr h1)
  have l : Ss.le S { S with ρ := newρ S.ρ S.μ.next p, μ := S.μ.new c, H := H' } := ⟨⟨Ext.of_ex ex, fun k hk => newρ_ne (Nat.ne_of_lt hk), Nat.le_succ _⟩, rfl⟩
  have lv : Vw.le ⟨hid S, newρ S.ρ S.μ.next p, S.μ.next + 1⟩ (Ss.vw { S with ρ := newρ S.ρ S.μ.next p, μ := S.μ.new c, H := H' }) := ⟨l.1.1, fun _ _ => rfl, Nat.le_refl _⟩
  refine ⟨l, fun i j d e h1 h2 h3 => ?_, fun j d e => ?_, fun j d e => ?_, fun a ha => tab_ext l.1.1 (R.tab a ha), fun a u e => ⟨?_, fun j d e2 => ?_⟩, lam_ex R.lam ex⟩
  · have h3 : newρ S.ρ S.μ.next p i = newρ S.ρ S.μ.next p j := h3
    rcases cs h1 with ⟨e1, _⟩ | ⟨n1, e1⟩ <;> rcases cs h2 with ⟨e2, _⟩ | ⟨n2, e2⟩
    · rw [e1, e2]
    · rw [e1, newρ_same, newρ_ne n2] at h3
      exact absurd h3.symm (nep (.inl ⟨j, e, e2, rfl⟩))
    · rw [e2, newρ_same, newρ_ne n1] at h3
      exact absurd h3 (nep (.inl ⟨i, d, e1, rfl⟩))
    · rw [newρ_ne n1, newρ_ne n2] at h3
      exact R.inj i j d e e1 e2 h3
  · rcases cs e with ⟨e1, _⟩ | ⟨n1, e1⟩
    · rw [e1]
      exact Nat.lt_succ_self _
    · exact Nat.lt_succ_of_lt (R.lt j d e1)
  · rcases cs e with ⟨e1, e2⟩ | ⟨n1, e1⟩
    · subst e1 e2
      show CellOk W _ _ (newρ S.ρ S.μ.next p S.μ.next) d
      rw [newρ_same]
      exact n.mono lv rfl
    · show CellOk W _ _ (newρ S.ρ S.μ.next p j) d
      rw [newρ_ne n1]
      obtain ⟨u, eu⟩ := R.live e1
      exact (R.ok j d e1).mono l.1 (hH _ (nep (.inl ⟨j, d, e1, rfl⟩)) (by rw [eu]; exact fun z => by cases z))
  · obtain ⟨h1, h2⟩ := R.prv a u e
    exact (hH a (nep (.inr ⟨u, e⟩)) (by rw [h1]; exact fun z => by cases z)).trans h1
  · rcases cs e2 with ⟨e1, _⟩ | ⟨n1, e1⟩
    · show newρ S.ρ S.μ.next p j ≠ a
      rw [e1, newρ_same]
      exact fun z => nep (.inr ⟨u, e⟩) z.symm
    · show newρ S.ρ S.μ.next p j ≠ a
      rw [newρ_ne n1]
      exact (R.prv a u e).2 j d e1
theorem Rl.del {k : Nat} (R : Rl W S) : Ss.le S { S with μ := S.μ.del k } ∧ Rl W { S with μ := S.μ.del k } := by
  have old : ∀ {j d}, (S.μ.del k).cell j = some d → S.μ.cell j = some d ∧ j ≠ k := fun {j d} e => by
    by_cases hj : j = k
    · subst hj
      rw [Sto.del_same] at e
      cases e
    · rw [Sto.del_ne hj] at e
      exact ⟨e, hj⟩
  have ex : ∀ a u, hid S a = some u → hid { S with μ := S.μ.del k } a = some u := fun a u h => by
    obtain ⟨h1, h2⟩ := hid_some.mp h
    refine hid_some.mpr ⟨h1, ?_⟩
    rintro (⟨j, d, e, h3⟩ | h3)
    · exact h2 (.inl ⟨j, d, (old e).1, h3⟩)
    · exact h2 (.inr h3)
  have l : Ss.le S { S with μ := S.μ.del k } := ⟨⟨Ext.of_ex ex, fun _ _ => rfl, Nat.le_refl _⟩, rfl⟩
  exact ⟨l, fun i j d e h1 h2 h3 => R.inj i j d e (old h1).1 (old h2).1 h3, fun j d e => R.lt j d (old e).1, fun j d e => (R.ok j d (old e).1).mono l.1 rfl, fun a ha => tab_ext l.1.1 (R.tab a ha), fun a u e => ⟨(R.prv a u e).1, fun j d e2 => (R.prv a u e).2 j d (old e2).1⟩, lam_ex R.lam ex⟩
def Sto.sub (μ' μ : Sto) : Prop := μ'.next = μ.next ∧ ∀ k c, μ'.cell k = some c → μ.cell k = some c
theorem Rl.sub {μ' : Sto} (R : Rl W S) (h : μ'.sub S.μ) : Ss.le S { S with μ := μ' } ∧ Rl W { S with μ := μ' } := by
  have ex : ∀ a u, hid S a = some u → hid { S with μ := μ' } a = some u := fun a u e => by
    obtain ⟨h1, h2⟩ := hid_some.mp e
    refine hid_some.mpr ⟨h1, ?_⟩
    rintro (⟨j, d, e, h3⟩ | h3)
    · exact h2 (.inl ⟨j, d, h.2 j d e, h3⟩)
    · exact h2 (.inr h3)
  have l : Ss.le S { S with μ := μ' } := ⟨⟨Ext.of_ex ex, fun _ _ => rfl, Nat.le_of_eq h.1.symm⟩, rfl⟩
  exact ⟨l, fun i j d e h1 h2 h3 => R.inj i j d e (h.2 _ _ h1) (h.2 _ _ h2) h3, fun j d e => by show j < μ'.next; rw [h.1]; exact R.lt j d (h.2 _ _ e), fun j d e => (R.ok j d (h.2 _ _ e)).mono l.1 rfl, fun a ha => tab_ext l.1.1 (R.tab a ha), fun a u e => ⟨(R.prv a u e).1, fun j d e2 => (R.prv a u e).2 j d (h.2 _ _ e2)⟩, lam_ex R.lam ex⟩
theorem own_pv {a : Addr} {u : HO} {H' : Hp} (b : Addr) : Ss.own { S with H := H', pv := upd S.pv a u } b ↔ (S.own b ∨ b = a) := by
  unfold Ss.own
  constructor
  · rintro (h | ⟨v, h⟩)
    · exact .inl (.inl h)
    · by_cases hb : b = a
      · exact .inr hb
      · have h : upd S.pv a u b = some v := h
        rw [upd_ne hb] at h
        exact .inl (.inr ⟨v, h⟩)
  · rintro ((h | ⟨v, h⟩) | h)
    · exact .inl h
    · by_cases hb : b = a
      · exact .inr ⟨u, by show upd S.pv a u b = _; rw [hb]; exact upd_same⟩
      · exact .inr ⟨v, by show upd S.pv a u b = _; rw [upd_ne hb]; exact h⟩
    · exact .inr ⟨u, by show upd S.pv a u b = _; rw [h]; exact upd_same⟩
theorem Rl.keep (R : Rl W S) (hp : S.H p = none) : S.vw.le (Ss.vw { S with H := upd S.H p o, pv := upd S.pv p o }) ∧ Rl W { S with H := upd S.H p o, pv := upd S.pv p o } := by
  have nep : ∀ {a}, S.own a → a ≠ p := fun {a} h z => by
    obtain ⟨u, e2⟩ := R.owned h
    rw [z, hp] at e2
    cases e2
  have ex : ∀ a u, hid S a = some u → hid { S with H := upd S.H p o, pv := upd S.pv p o } a = some u := fun a u h => by
    obtain ⟨h1, h2⟩ := hid_some.mp h
    have ha : a ≠ p := ne_of_none h1 hp
    refine hid_some.mpr ⟨(upd_ne ha).trans h1, fun z => ?_⟩
    rcases (own_pv a).mp z with z | z
    · exact h2 z
    · exact ha z
  have l : S.vw.le (Ss.vw { S with H := upd S.H p o, pv := upd S.pv p o }) := ⟨Ext.of_ex ex, fun _ _ => rfl, Nat.le_refl _⟩
  refine ⟨l, R.inj, R.lt, fun k c h => (R.ok k c h).mono l (upd_ne (nep (.inl ⟨k, c, h, rfl⟩))), fun a ha => tab_ext l.1 (R.tab a ha), fun a u e => ?_, lam_ex R.lam ex⟩
  have e : upd S.pv p o a = some u := e
  by_cases ha : a = p
  · subst ha
    rw [upd_same] at e
    cases e
    exact ⟨upd_same, fun k c h => nep (.inl ⟨k, c, h, rfl⟩)⟩
  · rw [upd_ne ha] at e
    exact ⟨(upd_ne ha).trans (R.prv a u e).1, (R.prv a u e).2⟩
theorem Rl.rekeep {u : HO} (R : Rl W S) (hp : S.pv p = some u) : S.vw.le (Ss.vw { S with H := upd S.H p o, pv := upd S.pv p o }) ∧ Rl W { S with H := upd S.H p o, pv := upd S.pv p o } := by
  have eh : hid { S with H := upd S.H p o, pv := upd S.pv p o } = hid S := hid_same (fun a => by
    rw [own_pv a]
    exact ⟨fun z => z.elim id fun e => .inr ⟨u, by rw [e]; exact hp⟩, .inl⟩) fun a ha => upd_ne fun z => ha (.inr ⟨u, by rw [z]; exact hp⟩)
  have l : S.vw.le (Ss.vw { S with H := upd S.H p o, pv := upd S.pv p o }) := by
    unfold Ss.vw
    rw [eh]
    exact Vw.le.refl _
  refine ⟨l, R.inj, R.lt, fun k c h => (R.ok k c h).mono l (upd_ne ((R.prv p u hp).2 k c h)), fun a ha => by rw [eh]; exact R.tab a ha, fun a v e => ?_, by rw [eh]; exact R.lam⟩
  have e : upd S.pv p o a = some v := e
  by_cases ha : a = p
  · subst ha
    rw [upd_same] at e
    cases e
    exact ⟨upd_same, (R.prv a u hp).2⟩
  · rw [upd_ne ha] at e
    exact ⟨(upd_ne ha).trans (R.prv a v e).1, (R.prv a v e).2⟩
theorem Rl.give {pv' : Hp} (R : Rl W S) (h : ∀ a o, pv' a = some o → S.pv a = some o) : S.vw.le (Ss.vw { S with pv := pv' }) ∧ Rl W { S with pv := pv' } := by
  have no : ∀ a, Ss.own { S with pv := pv' } a → S.own a := by
    rintro a (z | ⟨o, z⟩)
    · exact .inl z
    · exact .inr ⟨o, h a o z⟩
  have ex : ∀ a u, hid S a = some u → hid { S with pv := pv' } a = some u := fun a u e => by
    obtain ⟨h1, h2⟩ := hid_some.mp e
    exact hid_some.mpr ⟨h1, fun z => h2 (no a z)⟩
  have l : S.vw.le (Ss.vw { S with pv := pv' }) := ⟨Ext.of_ex ex, fun _ _ => rfl, Nat.le_refl _⟩
  exact ⟨l, R.inj, R.lt, fun k c e => (R.ok k c e).mono l rfl, fun a ha => tab_ext l.1 (R.tab a ha), fun a u e => R.prv a u (h a u e), lam_ex R.lam ex⟩
end
end M
end
section
set_option autoImplicit true
namespace M.Tp
open PySem PySem.SeqAt
open PySem.AutoSeq1 (wpAny_loadPart')
open PySem.MeetsSeq PySem.MeetsSeq2 PySem.MeetsSeq3
open Ob (RcOp lexAt lexAt_zero lexAt_succ)
def Pre (e : Nat → Bool) (j : Nat) : Prop := ∀ m, m < j → e m = true
theorem Pre.succ {e : Nat → Bool} {j : Nat} (h : Pre e j) (he : e j = true) : Pre e (j + 1) := fun m hm => by
  rcases Nat.lt_succ_iff_lt_or_eq.mp hm with q | q
  · exact h m q
  · rw [q]; exact he
theorem lt_meets (p q : Addr) (xs ys : Array Value) (c c2 : Nat) (dx dy : Option Addr) (sx sy : Array (Option Value)) (e r : Nat → Bool) :
    Meets (Builtin.«tuple.__lt__» ⟨[.ref p, .ref q], []⟩)
      (fun A R s => s.heap.get? p = some { cls := .type "tuple", dict := dx, data := .seq xs c, slots := sx } ∧ s.heap.get? q = some { cls := .type "tuple", dict := dy, data := .seq ys c2, slots := sy } ∧
        (∀ j (a1 : j < xs.size) (a2 : j < ys.size), Pre e j → EqAt A.in1 s xs[j] ys[j] (e j)) ∧ (∀ j (a1 : j < xs.size) (a2 : j < ys.size), Pre e j → e j = false → RcOp .Lt A.in1 s xs[j] ys[j] (r j)) ∧
        R (.ok (.ret (.bool (lexAt e r (decide (xs.size < ys.size)) 0 (min xs.size ys.size))))) s) :=
  .of_wp fun prog w A R s0 hyp => by
    obtain ⟨hp, gs, dr, tk, os⟩ := s0; obtain ⟨gp, gq, eqs, ords, fin0⟩ := hyp
    have sub2 := AutoSeq1.sub_tuple_tuple
    have lz : (xs.toList.zip ys.toList).length = min xs.size ys.size := by simp
    wp_walk using wpAny_loadPart' gp, wpAny_loadPart' gq, wpAny_forIn_list _ (fun left acc s1 => acc.1 = none ∧ s1 = ⟨hp, gs, dr, tk, os⟩ ∧ ∃ i, left = (xs.toList.zip ys.toList).drop i ∧ Pre e i ∧
      R (.ok (.ret (.bool (lexAt e r (decide (xs.size < ys.size)) i (min xs.size ys.size - i))))) ⟨hp, gs, dr, tk, os⟩) _
    case turn =>
      rintro ⟨u, v⟩ left acc s1 ⟨ha, rfl, i, hd, hpre, hfin⟩
      have il : i < (xs.toList.zip ys.toList).length := by
        rcases Nat.lt_or_ge i (xs.toList.zip ys.toList).length with g | g
        · exact g
        · rw [List.drop_of_length_le g] at hd; cases hd
      have im : i < min xs.size ys.size := lz ▸ il
      have ix : i < xs.size := Nat.lt_of_lt_of_le im (Nat.min_le_left _ _)
      have iy : i < ys.size := Nat.lt_of_lt_of_le im (Nat.min_le_right _ _)
      rw [List.drop_eq_getElem_cons il] at hd
      injection hd with huv hleft
      have eu : u = xs[i] := by have := congrArg Prod.fst huv; simpa using this
      have ev : v = ys[i] := by have := congrArg Prod.snd huv; simpa using this
      subst eu ev
      rw [show min xs.size ys.size - i = (min xs.size ys.size - (i + 1)) + 1 by omega, lexAt_succ] at hfin
      refine wpAny_bind (eqs i ix iy hpre prog w _ _ ?_)
      cases hc : e i with
      | true =>
        rw [hc, if_pos rfl] at hfin
        wp_walk
        exact ⟨rfl, rfl, i + 1, hleft, hpre.succ hc, hfin⟩
      | false =>
        rw [hc, if_neg Bool.false_ne_true] at hfin
        have ho := ords i ix iy hpre hc prog w
        wp_walk using ho
        exact ⟨_, rfl, by simpa using hfin⟩
    case fin =>
      rintro ⟨acc1, acc2⟩ s1 ⟨ha, rfl, i, hd, hpre, hfin⟩
      simp only at ha
      subst ha
      have ige : min xs.size ys.size ≤ i := by
        rcases Nat.lt_or_ge i (xs.toList.zip ys.toList).length with g | g
        · rw [List.drop_eq_getElem_cons g] at hd; cases hd
        · exact lz ▸ g
      rw [Nat.sub_eq_zero_of_le ige, lexAt_zero] at hfin
      wp_walk
      exact ⟨_, rfl, by simpa [Builtin.Tuple.tupleCompareSizes] using hfin⟩
    case h =>
      exact ⟨rfl, rfl, 0, rfl, fun m hm => absurd hm (Nat.not_lt_zero m), by simpa using fin0⟩
theorem tup_lt {A : Around} {s : Shared} {p q : Addr} {xs ys : Array Value} {e r : Nat → Bool} (hx : s.heap.IsTuple p xs) (hy : s.heap.IsTuple q ys) (hu : A.units < cLine)
    (eqs : ∀ j (a1 : j < xs.size) (a2 : j < ys.size), Pre e j → EqAt A.in1 s xs[j] ys[j] (e j)) (ords : ∀ j (a1 : j < xs.size) (a2 : j < ys.size), Pre e j → e j = false → RcOp .Lt A.in1 s xs[j] ys[j] (r j)) :
    RcOp .Lt A s (.ref p) (.ref q) (lexAt e r (decide (xs.size < ys.size)) 0 (min xs.size ys.size)) := fun prog w E Q hQ => by
  obtain ⟨⟨cx, dx, tx, sx⟩, gx, kx, nx, vx⟩ := id hx
  obtain ⟨⟨cy, dy, ty, sy⟩, gy, ky, ny, vy⟩ := id hy
  simp only at kx vx ky vy
  subst kx vx ky vy
  exact richCompare_meets_room (op := .Lt) ⟨_, gx, rfl⟩ ⟨_, gy, rfl⟩ F.slot_tuple_lt F.entry_tuple_lt (F.args_tuple_lt_2 _ _) (lt_meets p q xs ys nx ny dx dy sx sy e r) ⟨gx, gy, eqs, ords, ⟨(fun x => nomatch x), hQ⟩⟩ hu
theorem le_meets (p q : Addr) (xs ys : Array Value) (c c2 : Nat) (dx dy : Option Addr) (sx sy : Array (Option Value)) (e r : Nat → Bool) :
    Meets (Builtin.«tuple.__le__» ⟨[.ref p, .ref q], []⟩)
      (fun A R s => s.heap.get? p = some { cls := .type "tuple", dict := dx, data := .seq xs c, slots := sx } ∧ s.heap.get? q = some { cls := .type "tuple", dict := dy, data := .seq ys c2, slots := sy } ∧
        (∀ j (a1 : j < xs.size) (a2 : j < ys.size), Pre e j → EqAt A.in1 s xs[j] ys[j] (e j)) ∧ (∀ j (a1 : j < xs.size) (a2 : j < ys.size), Pre e j → e j = false → RcOp .LtE A.in1 s xs[j] ys[j] (r j)) ∧
        R (.ok (.ret (.bool (lexAt e r (decide (xs.size ≤ ys.size)) 0 (min xs.size ys.size))))) s) :=
  .of_wp fun prog w A R s0 hyp => by
    obtain ⟨hp, gs, dr, tk, os⟩ := s0; obtain ⟨gp, gq, eqs, ords, fin0⟩ := hyp
    have sub2 := AutoSeq1.sub_tuple_tuple
    have lz : (xs.toList.zip ys.toList).length = min xs.size ys.size := by simp
    wp_walk using wpAny_loadPart' gp, wpAny_loadPart' gq, wpAny_forIn_list _ (fun left acc s1 => acc.1 = none ∧ s1 = ⟨hp, gs, dr, tk, os⟩ ∧ ∃ i, left = (xs.toList.zip ys.toList).drop i ∧ Pre e i ∧
      R (.ok (.ret (.bool (lexAt e r (decide (xs.size ≤ ys.size)) i (min xs.size ys.size - i))))) ⟨hp, gs, dr, tk, os⟩) _
    case turn =>
      rintro ⟨u, v⟩ left acc s1 ⟨ha, rfl, i, hd, hpre, hfin⟩
      have il : i < (xs.toList.zip ys.toList).length := by
        rcases Nat.lt_or_ge i (xs.toList.zip ys.toList).length with g | g
        · exact g
        · rw [List.drop_of_length_le g] at hd; cases hd
      have im : i < min xs.size ys.size := lz ▸ il
      have ix : i < xs.size := Nat.lt_of_lt_of_le im (Nat.min_le_left _ _)
      have iy : i < ys.size := Nat.lt_of_lt_of_le im (Nat.min_le_right _ _)
      rw [List.drop_eq_getElem_cons il] at hd
      injection hd with huv hleft
      have eu : u = xs[i] := by have := congrArg Prod.fst huv; simpa using this
      have ev : v = ys[i] := by have := congrArg Prod.snd huv; simpa using this
      subst eu ev
      rw [show min xs.size ys.size - i = (min xs.size ys.size - (i + 1)) + 1 by omega, lexAt_succ] at hfin
      refine wpAny_bind (eqs i ix iy hpre prog w _ _ ?_)
      cases hc : e i with
      | true =>
        rw [hc, if_pos rfl] at hfin
        wp_walk
        exact ⟨rfl, rfl, i + 1, hleft, hpre.succ hc, hfin⟩
      | false =>
        rw [hc, if_neg Bool.false_ne_true] at hfin
        have ho := ords i ix iy hpre hc prog w
        wp_walk using ho
        exact ⟨_, rfl, by simpa using hfin⟩
    case fin =>
      rintro ⟨acc1, acc2⟩ s1 ⟨ha, rfl, i, hd, hpre, hfin⟩
      simp only at ha
      subst ha
      have ige : min xs.size ys.size ≤ i := by
        rcases Nat.lt_or_ge i (xs.toList.zip ys.toList).length with g | g
        · rw [List.drop_eq_getElem_cons g] at hd; cases hd
        · exact lz ▸ g
      rw [Nat.sub_eq_zero_of_le ige, lexAt_zero] at hfin
      wp_walk
      exact ⟨_, rfl, by simpa [Builtin.Tuple.tupleCompareSizes] using hfin⟩
    case h =>
      exact ⟨rfl, rfl, 0, rfl, fun m hm => absurd hm (Nat.not_lt_zero m), by simpa using fin0⟩
theorem tup_le {A : Around} {s : Shared} {p q : Addr} {xs ys : Array Value} {e r : Nat → Bool} (hx : s.heap.IsTuple p xs) (hy : s.heap.IsTuple q ys) (hu : A.units < cLine)
    (eqs : ∀ j (a1 : j < xs.size) (a2 : j < ys.size), Pre e j → EqAt A.in1 s xs[j] ys[j] (e j)) (ords : ∀ j (a1 : j < xs.size) (a2 : j < ys.size), Pre e j → e j = false → RcOp .LtE A.in1 s xs[j] ys[j] (r j)) :
    RcOp .LtE A s (.ref p) (.ref q) (lexAt e r (decide (xs.size ≤ ys.size)) 0 (min xs.size ys.size)) := fun prog w E Q hQ => by
  obtain ⟨⟨cx, dx, tx, sx⟩, gx, kx, nx, vx⟩ := id hx
  obtain ⟨⟨cy, dy, ty, sy⟩, gy, ky, ny, vy⟩ := id hy
  simp only at kx vx ky vy
  subst kx vx ky vy
  exact richCompare_meets_room (op := .LtE) ⟨_, gx, rfl⟩ ⟨_, gy, rfl⟩ F.slot_tuple_le F.entry_tuple_le (F.args_tuple_le_2 _ _) (le_meets p q xs ys nx ny dx dy sx sy e r) ⟨gx, gy, eqs, ords, ⟨(fun x => nomatch x), hQ⟩⟩ hu
theorem lt_text {A : Around} {s : Shared} (a b : Str) (t u : Tok) : RcOp .Lt A s (.str a t) (.str b u) (decide (a.cps.toList < b.cps.toList)) := fun _ _ _ _ h => PyProof.Rows.lt_str h
theorem le_text {A : Around} {s : Shared} (a b : Str) (t u : Tok) : RcOp .LtE A s (.str a t) (.str b u) (!decide (b.cps.toList < a.cps.toList)) := fun _ _ _ _ h => PySem.P.le_str h
end M.Tp
end
section
set_option autoImplicit true
namespace M
open PySem PySem.Spec PyProof.Rows L2
abbrev Post := D → Sto → Prop
abbrev XPost := Nat → Sto → Prop
abbrev Spec := List D → Sto → Post → XPost → Prop
structure Outs where
  nx : Env → Sto → Prop
  rt : Post
  bk : Env → Sto → Prop
  ct : Env → Sto → Prop
  xc : Nat → Env → Sto → Prop
abbrev IPost := List D → (Sto → Prop) → Sto → Prop
abbrev XF := List Str → Scope → Bool → Expr → Option (List Expr)
abbrev SF := List Str → Scope → Stmt → Option (List Expr)
abbrev EvE := Env → List D → Sto → Post → XPost → Prop
abbrev EvT := Env → List D → Sto → (Bool → Sto → Prop) → XPost → Prop
abbrev EvI := Env → List D → Sto → IPost → XPost → Prop
abbrev EvS := Env → List D → Sto → Outs → Prop
inductive IR where
  | nop
  | var (i : Nat) | con (d : D) | glb (x : Str) (d : D) | bty (n : String)
  | bin (o : Operator) (a b : IR) | neg (a : IR)
  | cmp (o : CmpOp) (a b : IR) | chn (o o' : CmpOp) (a b c : IR)
  | one (a : IR) | andV (a r : IR) | orV (a r : IR) | notV (a : IR) | ife (t a b : IR)
  | ix (a i : IR) | sl (a lo hi : IR)
  | tupC (as : IR) | lstC (as : IR) | lstM (as : IR)
  | nil | cons (a r : IR)
  | cal (x : Str) (sp : Spec) (as : IR)
  | bme (T id : String) (m : Str) (sp : Spec) (o as : IR)
  -- a method of an own class: what it does, by the receiver's class
  | mcl (m : Str) (tbl : List (Nat × Spec)) (o as : IR)
  -- while the dict in slot i is locked
  | lkE (i : Nat) (e : IR) | lkS (i : Nat) (s : IR)
  -- the items of a locked dict, enumerate of a list
  | itm (a : IR) | ien (a : IR)
  | cpr (own : List (Str × Nat)) (g it t e : IR)
  | dcp (own : List (Str × Nat)) (g it ke ve : IR)
  | frz (a : IR)
  -- any other expression: how it falls apart, what it does with its parts' data
  | nod (f : XF) (ev : EvE) (as : IR)
  -- tests
  | tV (a : IR) | tNot (t : IR) | tOne (t : IR) | tAnd (t r : IR) | tOr (t r : IR) | tnd (f : XF) (ev : EvT) (as : IR)
  -- what is walked
  | ind (f : XF) (ev : EvI) (as : IR) | itV (a : IR) | itR1 (a : IR) | itR2 (a b : IR)
  -- targets
  | gN (i : Nat) | gT (n : Nat) (gs : IR) | gSub (o i : IR)
  -- statements
  | asg (g e : IR) | asc (i : Nat) (e : IR) | exp (e : IR) | ret (e : IR) | ret0 | ifS (t a b : IR) | whl (t b : IR) | fr (g it b : IR) | brk | cnt | pas
  | sno (f : SF) (ev : EvS) (as : IR) | nev | seq (s r : IR)
def asL (d : D) (μ : Sto) : Option (List D) := match d with
  | .lst ds => some ds
  | .scr ds => some ds
  | .obj k => match μ.cell k with
    | some (.lst ds) => some ds
    | _ => none
  | _ => none
def asLM (d : D) (μ : Sto) : Option (List D) := match d with
  | .lst ds => some ds
  | .obj k => match μ.cell k with
    | some (.lst ds) => some ds
    | _ => none
  | _ => none
def asSeq (d : D) (μ : Sto) : Option (List D) := match d with
  | .tup ds => some ds
  | d => asL d μ
def asK (d : D) (μ : Sto) : Option (List (Key × D)) := match d with
  | .obj k => match μ.cell k with
    | some (.dct ds) => some ds
    | some (.lck ds _ _) => some ds
    | _ => none
  | _ => none
def insD (d : D) (μ : Sto) : Option (Nat × Nat × List (Str × D)) := match d with
  | .obj k => match μ.cell k with
    | some (.ins c fs) => some (k, c, fs)
    | _ => none
  | _ => none
def metOf (m : Str) (tbl : List (Nat × Spec)) (d : D) (μ : Sto) : Option Spec := match insD d μ with
  | some (_, c, fs) => match fs.lookup m with
    | none => tbl.lookup c
    | some _ => none
  | none => none
def asKM (d : D) (μ : Sto) : Option (List (Key × D)) := match d with
  | .obj k => match μ.cell k with
    | some (.dct ds) => some ds
    | _ => none
  | _ => none
mutual
def pyOf : D → PyData
  | .non => .none
  | .bl b => .bool b
  | .int i => .int i
  | .str s => .str s
  | .tup ds => .tuple (pyOfs ds)
  | .lst ds => .list (pyOfs ds)
  | .ty _ => .none
  | .fn _ => .none
  | .scr _ => .none
  | .obj _ => .none
def pyOfs : List D → List PyData
  | [] => []
  | d :: ds => pyOf d :: pyOfs ds
end
mutual
def pureD : D → Bool
  | .tup ds => pureDs ds
  | .lst ds => pureDs ds
  | .obj _ => false
  | .ty _ => false
  | .fn _ => false
  | .scr _ => false
  | _ => true
def pureDs : List D → Bool
  | [] => true
  | d :: ds => pureD d && pureDs ds
end
def drf (d : D) (μ : Sto) : D := match asLM d μ with
  | some ds => .lst ds
  | none => d
def eqN : Nat → D → Bool
  | _, .non | _, .bl _ | _, .int _ | _, .str _ => true
  | n + 1, .tup ds => ds.all (eqN n)
  | n + 1, .lst ds => ds.all (eqN n)
  | _, _ => false
def eqOk (d : D) : Bool := eqN 12 d
def deq (x y : D) : Bool := PyData.eqv (pyOf x) (pyOf y)
def flatD : D → Bool
  | .non | .bl _ | .int _ | .str _ => true
  | _ => false
def strIn (i j : Str) : Bool := match i.cps.toList with
  | [c] => decide (c ∈ j.cps.toList)
  | _ => !(Builtin.Str.occurrences j i 0 j.length 1).isEmpty
def keyOf : D → Option Key
  | .int i => some (.inl i)
  | .str s => some (.inr s)
  | _ => none
def valD (kvs : List (Key × D)) (k : Key) : Option D := (kvs.find? fun kv => decide (kv.1 = k)).map (·.2)
def putD (kvs : List (Key × D)) (k : Key) (v : D) : List (Key × D) :=
  if (kvs.any fun kv => decide (kv.1 = k)) = true then kvs.map (fun kv => if kv.1 = k then (kv.1, v) else kv) else kvs ++ [(k, v)]
def dropD (kvs : List (Key × D)) (k : Key) : List (Key × D) := kvs.filter fun kv => decide (kv.1 ≠ k)
def ltF : D → D → Option Bool
  | .int i, .int j => some (decide (i < j))
  | .str a, .str b => some (decide (a.cps.toList < b.cps.toList))
  | _, _ => none
def leF : D → D → Option Bool
  | .int i, .int j => some (decide (i ≤ j))
  | .str a, .str b => some (!decide (b.cps.toList < a.cps.toList))
  | _, _ => none
def tupO (f : D → D → Option Bool) (z : Bool) : List D → List D → Option Bool
  | [], [] => some z
  | x :: xs, y :: ys => if flatD x = true ∧ flatD y = true then (if deq x y = true then tupO f z xs ys else f x y) else none
  | _, _ => none
def repS (s : Str) (n : Nat) : Str := ⟨(List.replicate n s.cps).foldl (· ++ ·) #[]⟩
def binD (o : Operator) (x y : D) (μ : Sto) (Q : Post) : Prop := match o, x, y with
  | .Add, .int i, .int j => Q (.int (i + j)) μ
  | .Sub, .int i, .int j => Q (.int (i - j)) μ
  | .Mult, .int i, .int j => CMul i j ∧ Q (.int (i * j)) μ
  | .Mult, .str s, .int n => (0 ≤ n ∧ n < 2 ^ 31 ∧ s.length * n.toNat ≤ sizeLine) ∧ Q (.str (repS s n.toNat)) μ
  | .FloorDiv, .int i, .int j => CDivN i j ∧ Q (.int (i.fdiv j)) μ
  | .Mod, .int i, .int j => j ≠ 0 ∧ Q (.int (i.fmod j)) μ
  | .Pow, .int i, .int j => CPow i j ∧ Q (.int (i ^ j.toNat)) μ
  | .Add, .str i, .str j => i.length + j.length ≤ sizeLine ∧ Q (.str (i ++ j)) μ
  | .Add, x, y => match asLM x μ, asLM y μ with
    | some xs, some ys => xs.length + ys.length ≤ sizeLine ∧ Q (.lst (xs ++ ys)) μ
    | _, _ => False
  | _, _, _ => False
def isNonD : D → Bool
  | .non => true
  | _ => false
def cmpD (o : CmpOp) (x y : D) (μ : Sto) (Q : Bool → Prop) : Prop := match o, x, y with
  | .Eq, x, y => eqOk (drf x μ) = true ∧ eqOk (drf y μ) = true ∧ Q (deq (drf x μ) (drf y μ))
  | .NotEq, x, y => eqOk (drf x μ) = true ∧ eqOk (drf y μ) = true ∧ Q (!deq (drf x μ) (drf y μ))
  | .Lt, .int i, .int j => Q (decide (i < j))
  | .LtE, .int i, .int j => Q (decide (i ≤ j))
  | .Gt, .int i, .int j => Q (decide (j < i))
  | .GtE, .int i, .int j => Q (decide (j ≤ i))
  | .Lt, .str i, .str j => Q (decide (i.cps.toList < j.cps.toList))
  | .In, .str i, .str j => Q (strIn i j)
  | .NotIn, .str i, .str j => Q (!strIn i j)
  | .In, x, .tup ys => eqOk x = true ∧ eqOk (.tup ys) = true ∧ Q (ys.any fun y => deq y x)
  | .NotIn, x, .tup ys => eqOk x = true ∧ eqOk (.tup ys) = true ∧ Q (!ys.any fun y => deq y x)
  | .In, x, y => match asLM y μ with
    | some ys => eqOk x = true ∧ eqOk (.lst ys) = true ∧ Q (ys.any fun y => deq y x)
    | none => match asK y μ, keyOf x with
      | some kvs, some k => Q (valD kvs k).isSome
      | _, _ => False
  | .NotIn, x, y => match asLM y μ with
    | some ys => eqOk x = true ∧ eqOk (.lst ys) = true ∧ Q (!ys.any fun y => deq y x)
    | none => match asK y μ, keyOf x with
      | some kvs, some k => Q (!(valD kvs k).isSome)
      | _, _ => False
  | .Lt, .tup xs, .tup ys => xs.length = ys.length ∧ match tupO ltF false xs ys with
    | some b => Q b
    | none => False
  | .LtE, .tup xs, .tup ys => xs.length = ys.length ∧ match tupO leF true xs ys with
    | some b => Q b
    | none => False
  | .Is, .bl a, .bl b => Q (decide (a = b))
  | .IsNot, .bl a, .bl b => Q (!decide (a = b))
  | .Is, x, .non => Q (isNonD x)
  | .IsNot, x, .non => Q (!isNonD x)
  | _, _, _ => False
def ixD (x y : D) (μ : Sto) (Q : Post) : Prop := match x, y with
  | .str s, .int i => s.length ≤ sizeLine ∧ match atI s.cps.toList i with
    | some c => Q (.str ⟨#[c]⟩) μ
    | none => False
  | x, y => match asSeq x μ, y with
    | some xs, .int i => match atI xs i with
      | some d => Q d μ
      | none => False
    | none, y => match asK x μ, keyOf y with
      | some kvs, some k => match valD kvs k with
        | some d => Q d μ
        | none => False
      | _, _ => False
    | _, _ => False
def cutD {α : Type} (xs : List α) (lo hi : Option Int) : List α := (xs.drop (HT.sIx xs.length 0 lo)).take (HT.sIx xs.length xs.length hi - HT.sIx xs.length 0 lo)
def slD (x : D) (lo hi : Option Int) (μ : Sto) (Q : Post) : Prop := match x with
  | .str s => s.length ≤ sizeLine ∧ Q (.str ⟨(cutD s.cps.toList lo hi).toArray⟩) μ
  | .tup ds => Q (.tup (cutD ds lo hi)) μ
  | x => match asL x μ with
    | some xs => Q (.lst (cutD xs lo hi)) μ
    | none => False
def truD (x : D) (μ : Sto) (Q : Bool → Prop) : Prop := match x with
  | .non => Q false
  | .bl b => Q b
  | .int i => Q (i != 0)
  | .str s => s.length ≤ sizeLine ∧ Q ((s.length : Int) != 0)
  | x => match asSeq x μ with
    | some xs => Q (!xs.isEmpty)
    | none => match asKM x μ with
      | some kvs => Q (!kvs.isEmpty)
      | none => False
def loopF (turn : D → Env → Sto → (Env → Sto → Prop) → Prop) (gd : Sto → Prop) (fin : Env → Sto → Prop) : List D → Env → Sto → Prop
  | [], δ, μ => gd μ ∧ fin δ μ
  | x :: r, δ, μ => gd μ ∧ turn x δ μ fun δ' μ' => loopF turn gd fin r δ' μ'
def loopW (tst : Env → Sto → (Bool → Sto → Prop) → Prop) (turn : Env → Sto → (Env → Sto → Prop) → Prop) (fin : Env → Sto → Prop) : Nat → Env → Sto → Prop
  | 0, _, _ => False
  | n + 1, δ, μ => tst δ μ fun b μ' => if b = true then turn δ μ' fun δ' μ'' => loopW tst turn fin n δ' μ'' else fin δ μ'
def loopC (turn : D → Sto → (Option D → Sto → Prop) → Prop) (gd : Sto → Prop) (fin : List D → Sto → Prop) : List D → List D → Sto → Prop
  | [], acc, μ => gd μ ∧ fin acc μ
  | x :: r, acc, μ => gd μ ∧ turn x μ fun o μ' => match o with
    | some y => acc.length < sizeLine ∧ loopC turn gd fin r (acc ++ [y]) μ'
    | none => loopC turn gd fin r acc μ'
def loopK (turn : D → Sto → (Key → D → Sto → Prop) → Prop) (gd : Sto → Prop) (fin : List (Key × D) → Sto → Prop) : List D → List (Key × D) → Sto → Prop
  | [], acc, μ => gd μ ∧ fin acc μ
  | x :: r, acc, μ => gd μ ∧ turn x μ fun k y μ' => acc.length < sizeLine ∧ loopK turn gd fin r (putD acc k y) μ'
def itD (d : D) (μ : Sto) (K : IPost) : Prop := match d with
  | .tup ds => K ds (fun _ => True) μ
  | .lst ds => K ds (fun _ => True) μ
  | .scr ds => K ds (fun _ => True) μ
  | .str s => K (s.cps.toList.map fun c => .str ⟨#[c]⟩) (fun _ => True) μ
  | .obj k => match μ.cell k with
    | some (.lst ds) => K ds (fun μ' => μ'.cell k = some (.lst ds)) μ
    | _ => False
  | _ => False
def intsD (lo : Int) (n : Nat) : List D := (List.range n).map fun (k : Nat) => D.int (lo + k)
def enumD (n : Nat) : List D → List D
  | [] => []
  | d :: ds => .tup [.int n, d] :: enumD (n + 1) ds
def wipeE (δ : Env) : List Nat → Env
  | [] => δ
  | v :: vs => (wipeE δ vs).set v none
def wpOpt (c : IR) (e : Sto → Post → Prop) (μ : Sto) (K : Option Int → Sto → Prop) : Prop := match c with
  | .nop => K none μ
  | _ => e μ fun d μ' => match d with
    | .int i => K (some i) μ'
    | _ => False
def tyD (T : String) (d : D) (μ : Sto) : Bool := match d with
  | .str _ => T == "str"
  | .lst _ | .scr _ => T == "list"
  | .obj k => match μ.cell k with
    | some (.lst _) => T == "list"
    | some (.dct _) => T == "dict"
    | _ => false
  | _ => false
def lckD (δ : Env) (i : Nat) (μ : Sto) : Option (Nat × List (Key × D)) := match δ[i]? with
  | some (some (.obj k)) => match μ.cell k with
    | some (.dct kvs) => some (k, kvs)
    | _ => none
  | _ => none
def keyD : Key → D
  | .inl i => .int i
  | .inr s => .str s
mutual
def wpE : IR → Env → Sto → Post → XPost → Prop
  | .var i, δ, μ, Q, _ => match δ[i]? with
    | some (some d) => Q d μ
    | _ => False
  | .con d, _, μ, Q, _ => Q d μ
  | .glb _ d, _, μ, Q, _ => Q d μ
  | .bty n, _, μ, Q, _ => Q (.ty n) μ
  | .bin o a b, δ, μ, Q, X => wpE a δ μ (fun x μ1 => wpE b δ μ1 (fun y μ2 => binD o x y μ2 Q) X) X
  | .neg a, δ, μ, Q, X => wpE a δ μ (fun x μ1 => match x with
    | .int i => Q (.int (-i)) μ1
    | _ => False) X
  | .cmp o a b, δ, μ, Q, X => wpE a δ μ (fun x μ1 => wpE b δ μ1 (fun y μ2 => cmpD o x y μ2 fun r => Q (.bl r) μ2) X) X
  | .chn o o' a b c, δ, μ, Q, X => wpE a δ μ (fun x μ1 => wpE b δ μ1 (fun y μ2 => cmpD o x y μ2 fun r => if r = true then wpE c δ μ2 (fun z μ3 => cmpD o' y z μ3 fun r' => Q (.bl r') μ3) X else Q (.bl false) μ2) X) X
  | .one a, δ, μ, Q, X => wpE a δ μ Q X
  | .andV a r, δ, μ, Q, X => wpE a δ μ (fun x μ1 => match x with
    | .bl c => if c = true then wpE r δ μ1 Q X else Q (.bl false) μ1
    | _ => False) X
  | .orV a r, δ, μ, Q, X => wpE a δ μ (fun x μ1 => match x with
    | .bl c => if c = true then Q (.bl true) μ1 else wpE r δ μ1 Q X
    | _ => False) X
  | .notV a, δ, μ, Q, X => wpE a δ μ (fun x μ1 => match x with
    | .bl c => Q (.bl (!c)) μ1
    | _ => False) X
  | .ife t a b, δ, μ, Q, X => wpT t δ μ (fun c μ1 => if c = true then wpE a δ μ1 Q X else wpE b δ μ1 Q X) X
  | .ix a i, δ, μ, Q, X => wpE a δ μ (fun x μ1 => wpE i δ μ1 (fun y μ2 => ixD x y μ2 Q) X) X
  | .sl a lo hi, δ, μ, Q, X => wpE a δ μ (fun x μ1 => wpOpt lo (fun μ K => wpE lo δ μ K X) μ1 fun l μ2 => wpOpt hi (fun μ K => wpE hi δ μ K X) μ2 fun h μ3 => slD x l h μ3 Q) X
  | .tupC as, δ, μ, Q, X => wpA as δ μ (fun ds μ1 => ds.length ≤ sizeLine ∧ Q (.tup ds) μ1) X
  | .lstC as, δ, μ, Q, X => wpA as δ μ (fun ds μ1 => ds.length ≤ sizeLine ∧ Q (.lst ds) μ1) X
  | .lstM as, δ, μ, Q, X => wpA as δ μ (fun ds μ1 => ds.length ≤ sizeLine ∧ Q (.obj μ1.next) (μ1.new (.lst ds))) X
  | .cal _ sp as, δ, μ, Q, X => wpA as δ μ (fun ds μ1 => sp ds μ1 Q X) X
  | .bme T _ _ sp o as, δ, μ, Q, X => wpE o δ μ (fun d μ1 => tyD T d μ1 = true ∧ wpA as δ μ1 (fun ds μ2 => sp (d :: ds) μ2 Q (fun _ _ => False)) X) X
  | .mcl m tbl o as, δ, μ, Q, X => wpE o δ μ (fun d μ1 => match metOf m tbl d μ1 with
    | some sp => wpA as δ μ1 (fun ds μ2 => sp (d :: ds) μ2 Q X) X
    | none => False) X
  | .cpr own g it t e, δ, μ, Q, X => wpI it δ μ (fun xs gd μ1 => loopC (fun x μ N => wpG g x (wipeE δ (own.map (·.2))) μ fun δ2 μ2 => wpT t δ2 μ2 (fun b μ3 => if b = true then wpE e δ2 μ3 (fun y μ4 => N (some y) μ4) (fun _ _ => False) else N none μ3) (fun _ _ => False)) gd (fun ys μ2 => Q (.lst ys) μ2) xs [] μ1) X
  | .dcp own g it ke ve, δ, μ, Q, X => wpI it δ μ (fun xs gd μ1 => loopK (fun x μ N => wpG g x (wipeE δ (own.map (·.2))) μ fun δ2 μ2 => wpE ke δ2 μ2 (fun kd μ3 => wpE ve δ2 μ3 (fun y μ4 => match keyOf kd with
    | some k => N k y μ4
    | none => False) (fun _ _ => False)) (fun _ _ => False)) gd (fun kvs μ2 => Q (.obj μ2.next) (μ2.new (.dct kvs))) xs [] μ1) X
  | .nod _ ev as, δ, μ, Q, X => wpA as δ μ (fun ds μ1 => ev δ ds μ1 Q X) X
  | .lkE i e, δ, μ, Q, _ => match lckD δ i μ with
    | some (k, kvs) => ∀ o es, wpE e δ (μ.put k (.lck kvs o es)) (fun d μ' => μ'.cell k = some (.lck kvs o es) ∧ Q d (μ'.put k (.dct kvs))) (fun _ _ => False)
    | none => False
  | .frz a, δ, μ, Q, X => wpE a δ μ (fun x μ1 => match x with
    | .obj k => match μ1.cell k with
      | some (.lst ds) => Q (.lst ds) (μ1.del k)
      | _ => False
    | _ => False) X
  | _, _, _, _, _ => False
def wpA : IR → Env → Sto → (List D → Sto → Prop) → XPost → Prop
  | .nil, _, μ, Q, _ => Q [] μ
  | .cons a r, δ, μ, Q, X => wpE a δ μ (fun x μ1 => wpA r δ μ1 (fun xs μ2 => Q (x :: xs) μ2) X) X
  | _, _, _, _, _ => False
def wpT : IR → Env → Sto → (Bool → Sto → Prop) → XPost → Prop
  | .cmp o a b, δ, μ, Q, X => wpE a δ μ (fun x μ1 => wpE b δ μ1 (fun y μ2 => cmpD o x y μ2 fun r => Q r μ2) X) X
  | .chn o o' a b c, δ, μ, Q, X => wpE a δ μ (fun x μ1 => wpE b δ μ1 (fun y μ2 => cmpD o x y μ2 fun r => if r = true then wpE c δ μ2 (fun z μ3 => cmpD o' y z μ3 fun r' => Q r' μ3) X else Q false μ2) X) X
  | .tV a, δ, μ, Q, X => wpE a δ μ (fun x μ1 => truD x μ1 fun b => Q b μ1) X
  | .tNot t, δ, μ, Q, X => wpT t δ μ (fun b μ1 => Q (!b) μ1) X
  | .tOne t, δ, μ, Q, X => wpT t δ μ Q X
  | .tAnd t r, δ, μ, Q, X => wpT t δ μ (fun b μ1 => if b = true then wpT r δ μ1 Q X else Q false μ1) X
  | .tOr t r, δ, μ, Q, X => wpT t δ μ (fun b μ1 => if b = true then Q true μ1 else wpT r δ μ1 Q X) X
  | .nop, _, μ, Q, _ => Q true μ
  | .tnd _ ev as, δ, μ, Q, X => wpA as δ μ (fun ds μ1 => ev δ ds μ1 Q X) X
  | _, _, _, _, _ => False
def wpI : IR → Env → Sto → IPost → XPost → Prop
  | .ind _ ev as, δ, μ, K, X => wpA as δ μ (fun ds μ1 => ev δ ds μ1 K X) X
  | .itV a, δ, μ, K, X => wpE a δ μ (fun d μ1 => itD d μ1 K) X
  | .itm a, δ, μ, K, X => wpE a δ μ (fun d μ1 => match d with
    | .obj k => match μ1.cell k with
      | some (.lck kvs o es) => K (kvs.map fun kv => .tup [keyD kv.1, kv.2]) (fun μ' => μ'.cell k = some (.lck kvs o es)) μ1
      | _ => False
    | _ => False) X
  | .ien a, δ, μ, K, X => wpE a δ μ (fun d μ1 => match d with
    | .lst ds => K (enumD 0 ds) (fun _ => True) μ1
    | .obj k => match μ1.cell k with
      | some (.lst ds) => K (enumD 0 ds) (fun μ' => μ'.cell k = some (.lst ds)) μ1
      | _ => False
    | _ => False) X
  | .itR1 a, δ, μ, K, X => wpE a δ μ (fun d μ1 => match d with
    | .int n => -(2 ^ 62) ≤ n ∧ n < 2 ^ 62 ∧ K (intsD 0 n.toNat) (fun _ => True) μ1
    | _ => False) X
  | .itR2 a b, δ, μ, K, X => wpE a δ μ (fun d μ1 => wpE b δ μ1 (fun e μ2 => match d, e with
    | .int i, .int j => (-(2 ^ 62) ≤ i ∧ i < 2 ^ 62 ∧ -(2 ^ 62) ≤ j ∧ j < 2 ^ 62) ∧ K (intsD i (j - i).toNat) (fun _ => True) μ2
    | _, _ => False) X) X
  | _, _, _, _, _ => False
def wpG : IR → D → Env → Sto → (Env → Sto → Prop) → Prop
  | .gN i, d, δ, μ, Q => Q (δ.set i (some d)) μ
  | .gT n gs, d, δ, μ, Q => match asSeq d μ with
    | some ds => ds.length = n ∧ wpGs gs ds δ μ Q
    | none => False
  | .gSub o i, d, δ, μ, Q => wpE o δ μ (fun x μ1 => wpE i δ μ1 (fun y μ2 => match x, y with
    | .obj k, .int j => match μ2.cell k with
      | some (.lst ds) => match ixN ds.length j with
        | some n => Q δ (μ2.put k (.lst (ds.set n d)))
        | none => False
      | _ => False
    | .obj k, y => match μ2.cell k, keyOf y with
      | some (.dct kvs), some key => kvs.length < sizeLine ∧ Q δ (μ2.put k (.dct (putD kvs key d)))
      | _, _ => False
    | _, _ => False) (fun _ _ => False)) (fun _ _ => False)
  | _, _, _, _, _ => False
def wpGs : IR → List D → Env → Sto → (Env → Sto → Prop) → Prop
  | .nil, ds, δ, μ, Q => ds = [] ∧ Q δ μ
  | .cons g r, ds, δ, μ, Q => match ds with
    | d :: ds => wpG g d δ μ fun δ1 μ1 => wpGs r ds δ1 μ1 Q
    | [] => False
  | _, _, _, _, _ => False
def wpS : IR → Env → Sto → Outs → Prop
  | .asg g e, δ, μ, O => wpE e δ μ (fun d μ1 => wpG g d δ μ1 O.nx) (fun x μ' => O.xc x δ μ')
  | .asc i e, δ, μ, O => wpE e δ μ (fun d μ1 => O.nx (δ.set i (some d)) μ1) (fun x μ' => O.xc x δ μ')
  | .exp e, δ, μ, O => wpE e δ μ (fun _ μ1 => O.nx δ μ1) (fun x μ' => O.xc x δ μ')
  | .ret e, δ, μ, O => wpE e δ μ O.rt (fun x μ' => O.xc x δ μ')
  | .ret0, _, μ, O => O.rt .non μ
  | .ifS t a b, δ, μ, O => wpT t δ μ (fun c μ1 => if c = true then wpS a δ μ1 O else wpS b δ μ1 O) (fun x μ' => O.xc x δ μ')
  | .whl t b, δ, μ, O => ∃ n, loopW (fun δ μ Q => wpT t δ μ Q (fun x μ' => O.xc x δ μ')) (fun δ μ N => wpS b δ μ { O with nx := N, ct := N, bk := O.nx }) O.nx n δ μ
  | .fr g it b, δ, μ, O => wpI it δ μ (fun xs gd μ1 => loopF (fun x δ μ N => wpG g x δ μ fun δ' μ' => wpS b δ' μ' { O with nx := N, ct := N, bk := O.nx }) gd O.nx xs δ μ1) (fun x μ' => O.xc x δ μ')
  | .brk, δ, μ, O => O.bk δ μ
  | .cnt, δ, μ, O => O.ct δ μ
  | .pas, δ, μ, O => O.nx δ μ
  | .sno _ ev as, δ, μ, O => wpA as δ μ (fun ds μ1 => ev δ ds μ1 O) (fun x μ' => O.xc x δ μ')
  | .lkS i s, δ, μ, O => match lckD δ i μ with
    | some (k, kvs) => ∀ o es, wpS s δ (μ.put k (.lck kvs o es)) ⟨fun δ' μ' => μ'.cell k = some (.lck kvs o es) ∧ O.nx δ' (μ'.put k (.dct kvs)), fun d μ' => μ'.cell k = some (.lck kvs o es) ∧ O.rt d (μ'.put k (.dct kvs)),
        fun δ' μ' => μ'.cell k = some (.lck kvs o es) ∧ O.bk δ' (μ'.put k (.dct kvs)), fun δ' μ' => μ'.cell k = some (.lck kvs o es) ∧ O.ct δ' (μ'.put k (.dct kvs)), fun _ _ _ => False⟩
    | none => False
  | .nev, _, _, _ => False
  | .seq s r, δ, μ, O => wpS s δ μ { O with nx := fun δ' μ' => wpS r δ' μ' O }
  | .nil, δ, μ, O => O.nx δ μ
  | _, _, _, _ => False
end
end M
end
section
set_option autoImplicit true
namespace M
open PySem PySem.Spec PyProof.Rows L2
abbrev wd (X : Cx) (T : List Addr) (cls : Nat → Addr) : Wd := ⟨X.K, T, cls⟩
def After (W : Wd) (S : Ss) (QM : Post) (Q : VK) : Prop := ∀ S' d v, S.le S' → Rl W S' → Rep W.K S'.vw d v → QM d S'.μ → Q v S'.H
def AfterX (W : Wd) (S : Ss) (QX : XPost) (E : XK) : Prop := ∀ S' x, S.le S' → Rl W S' → QX x S'.μ → E (.ref (W.cls x)) none S'.H
def AfterB (W : Wd) (S : Ss) (QM : Bool → Sto → Prop) (Q : Bool → Hp → Prop) : Prop := ∀ S' b, S.le S' → Rl W S' → QM b S'.μ → Q b S'.H
theorem After.le {W : Wd} {S S' : Ss} {QM : Post} {Q : VK} (l : S.le S') (h : After W S QM Q) : After W S' QM Q := fun S2 d v l2 => h S2 d v (l.trans l2)
theorem AfterX.le {W : Wd} {S S' : Ss} {QM : XPost} {Q : XK} (l : S.le S') (h : AfterX W S QM Q) : AfterX W S' QM Q := fun S2 d l2 => h S2 d (l.trans l2)
theorem AfterB.le {W : Wd} {S S' : Ss} {QM : Bool → Sto → Prop} {Q : Bool → Hp → Prop} (l : S.le S') (h : AfterB W S QM Q) : AfterB W S' QM Q := fun S2 d l2 => h S2 d (l.trans l2)
section
variable {W : Wd} {S : Ss} {d e : D} {v u : V} {ds : List D}
theorem asLM_rep (R : Rl W S) (r : Rep W.K S.vw d v) (h : asLM d S.μ = some ds) : ∃ a xs, v = .ref a ∧ S.H a = some (.lst xs) ∧ Reps W.K S.vw ds xs := by
  unfold asLM at h
  split at h
  · cases h
    obtain ⟨a, xs, e1, s, r2⟩ := r
    exact ⟨a, xs, e1, hid_ex s, r2⟩
  · rename_i k
    split at h
    · rename_i c hc
      cases h
      obtain ⟨xs, e1, r2⟩ := R.ok _ _ hc
      exact ⟨_, xs, r.2, e1, r2⟩
    · cases h
  · cases h
theorem asL_rep (R : Rl W S) (r : Rep W.K S.vw d v) (h : asL d S.μ = some ds) : ∃ a xs, v = .ref a ∧ SqL W.K S.H a xs ∧ Reps W.K S.vw ds xs := by
  unfold asL at h
  split at h
  · cases h
    obtain ⟨a, xs, e1, s, r2⟩ := r
    exact ⟨a, xs, e1, SqL.of (hid_ex s), r2⟩
  · cases h
    obtain ⟨a, xs, e1, s, r2⟩ := r
    exact ⟨a, xs, e1, hid_ext.sql s, r2⟩
  · rename_i k
    split at h
    · rename_i c hc
      cases h
      obtain ⟨xs, e1, r2⟩ := R.ok _ _ hc
      exact ⟨_, xs, r.2, SqL.of e1, r2⟩
    · cases h
  · cases h
theorem asSeq_rep (R : Rl W S) (r : Rep W.K S.vw d v) (h : asSeq d S.μ = some ds) : ∃ a xs, v = .ref a ∧ (SqL W.K S.H a xs ∨ SqT W.K S.H a xs) ∧ Reps W.K S.vw ds xs := by
  unfold asSeq at h
  split at h
  · cases h
    obtain ⟨a, xs, e1, s, r2⟩ := r
    exact ⟨a, xs, e1, .inr (hid_ext.sqt s), r2⟩
  · obtain ⟨a, xs, e1, s, r2⟩ := asL_rep R r h
    exact ⟨a, xs, e1, .inl s, r2⟩
mutual
theorem dp_of {K : PySem.W.Frag} {w : Vw} {H : Hp} (hx : Ext w.G H) : ∀ {d : D} {v : V}, Rep K w d v → pureD d = true → Dp K H v (pyOf d)
  | .non, _, h, _ => by cases (show _ = V.non from h); exact .non
  | .bl b, _, h, _ => by cases (show _ = V.bl b from h); exact .bl b
  | .int b, _, h, _ => by cases (show _ = V.int b from h); exact .int b
  | .str b, _, h, _ => by cases (show _ = V.str b from h); exact .str b
  | .tup ds, _, ⟨a, xs, e, s, r⟩, p => by cases e; exact .tup (hx.sqt s) (dps_of hx r p)
  | .lst ds, _, ⟨a, xs, e, s, r⟩, p => by cases e; exact .lst (SqL.of (hx.at s fun _ z => by cases z)) (dps_of hx r p)
  | .ty _, _, _, p => by cases (show false = true from p)
  | .fn _, _, _, p => by cases (show false = true from p)
  | .scr _, _, _, p => by cases (show false = true from p)
  | .obj _, _, _, p => by cases (show false = true from p)
theorem dps_of {K : PySem.W.Frag} {w : Vw} {H : Hp} (hx : Ext w.G H) : ∀ {ds : List D} {vs : List V}, Reps K w ds vs → pureDs ds = true → DpAll K H vs (pyOfs ds)
  | [], _, h, _ => by cases (show _ = [] from h); exact .nil
  | d :: ds, _, ⟨x, r, e, h, t⟩, p => by
    cases e
    have p2 : (pureD d && pureDs ds) = true := p
    rw [Bool.and_eq_true] at p2
    exact .cons (dp_of hx h p2.1) (dps_of hx t p2.2)
end
theorem eqN_ok : ∀ (n : Nat) (d : D), eqN n d = true → pureD d = true ∧ (pyOf d).plain = true ∧ (pyOf d).depth ≤ n := by
  have all : ∀ (n : Nat), (∀ d, eqN n d = true → pureD d = true ∧ (pyOf d).plain = true ∧ (pyOf d).depth ≤ n) → ∀ ds : List D, ds.all (eqN n) = true → pureDs ds = true ∧ PyData.plainAll (pyOfs ds) = true ∧ PyData.depthAll (pyOfs ds) ≤ n := by
    intro n ih ds
    induction ds with
    | nil => exact fun _ => ⟨rfl, rfl, Nat.zero_le _⟩
    | cons d ds ih2 =>
      intro h
      rw [List.all_cons, Bool.and_eq_true] at h
      obtain ⟨a1, a2, a3⟩ := ih d h.1
      obtain ⟨b1, b2, b3⟩ := ih2 h.2
      refine ⟨by show (pureD d && pureDs ds) = true; rw [a1, b1]; rfl, by show (PyData.plain (pyOf d) && PyData.plainAll (pyOfs ds)) = true; rw [a2, b2]; rfl, ?_⟩
      show max (PyData.depth (pyOf d)) (PyData.depthAll (pyOfs ds)) ≤ n
      omega
  intro n
  induction n with
  | zero => intro d h; cases d <;> first | (cases (show false = true from h); done) | exact ⟨rfl, rfl, Nat.le_refl _⟩
  | succ n ih =>
    intro d h
    cases d with
    | non => exact ⟨rfl, rfl, Nat.zero_le _⟩
    | bl b => exact ⟨rfl, rfl, Nat.zero_le _⟩
    | int b => exact ⟨rfl, rfl, Nat.zero_le _⟩
    | str b => exact ⟨rfl, rfl, Nat.zero_le _⟩
    | tup ds =>
      obtain ⟨a1, a2, a3⟩ := all n ih ds h
      exact ⟨a1, a2, Nat.succ_le_succ a3⟩
    | lst ds =>
      obtain ⟨a1, a2, a3⟩ := all n ih ds h
      exact ⟨a1, a2, Nat.succ_le_succ a3⟩
    | _ => cases (show false = true from h)
theorem drf_dp (R : Rl W S) (r : Rep W.K S.vw d v) (h : eqOk (drf d S.μ) = true) : Dp W.K S.H v (pyOf (drf d S.μ)) ∧ (pyOf (drf d S.μ)).plain = true ∧ (pyOf (drf d S.μ)).depth ≤ 12 := by
  have h2 := eqN_ok 12 _ h
  refine ⟨?_, h2.2⟩
  unfold drf at h2 ⊢
  split
  · rename_i ds e
    rw [e] at h2
    obtain ⟨a, xs, e1, s, r2⟩ := asLM_rep R r e
    subst e1
    exact .lst (SqL.of s) (dps_of hid_ext r2 h2.1)
  · rename_i e
    rw [e] at h2
    exact dp_of hid_ext r h2.1
theorem eqOk_dp (r : Rep W.K S.vw d v) (h : eqOk d = true) : Dp W.K S.H v (pyOf d) ∧ (pyOf d).plain = true ∧ (pyOf d).depth ≤ 12 := by
  have h2 := eqN_ok 12 _ h
  exact ⟨dp_of hid_ext r h2.1, h2.2⟩
theorem pyOfs_any (x : D) : ∀ ys : List D, (pyOfs ys).any (fun z => PyData.eqv z (pyOf x)) = ys.any fun y => deq y x
  | [] => rfl
  | y :: ys => by
    show (PyData.eqv (pyOf y) (pyOf x) || (pyOfs ys).any _) = (deq y x || ys.any _)
    rw [pyOfs_any x ys]
    rfl
theorem flat_rep {K : PySem.W.Frag} {w : Vw} (h : flatD d = true) (r : Rep K w d v) : flatV v = true := by
  cases d <;> first | (cases (show false = true from h)) | (have e : v = _ := r; subst e; rfl)
theorem flat_eq {K : PySem.W.Frag} {w : Vw} (hd : flatD d = true) (he : flatD e = true) (r : Rep K w d v) (q : Rep K w e u) : eqV v u = deq d e := by
  cases d <;> first | (cases (show false = true from hd)) | skip
  all_goals (cases e <;> first | (cases (show false = true from he)) | skip)
  all_goals (have e1 : v = _ := r; have e2 : u = _ := q; subst e1 e2)
  all_goals first | rfl | (unfold eqV deq pyOf PyData.eqv; rfl) | skip
  all_goals (simp only [eqV, deq, pyOf, PyData.eqv])
  all_goals first | rfl | (rename_i a b; cases a <;> cases b <;> rfl) | skip
end
theorem repS_nil {s : Str} (h : s.length = 0) (n : Nat) : repS s n = s := by
  obtain ⟨c⟩ := s
  have hc : c = #[] := Array.eq_empty_of_size_eq_zero h
  subst hc
  unfold repS
  congr 1
  induction n with
  | zero => rfl
  | succ n ih => rw [List.replicate_succ, List.foldl_cons]; exact ih
theorem foldl_size (c : Array Nat) : ∀ (n : Nat) (acc : Array Nat), ((List.replicate n c).foldl (· ++ ·) acc).size = acc.size + c.size * n
  | 0, acc => by simp
  | n + 1, acc => by
    rw [List.replicate_succ, List.foldl_cons, foldl_size c n, Array.size_append, Nat.mul_succ]
    omega
theorem repS_length {s : Str} {n : Nat} : (repS s n).length = s.length * n := by
  show (repS s n).cps.size = s.cps.size * n
  unfold repS
  rw [foldl_size]
  simp
theorem repS_one {s : Str} : repS s 1 = s := by
  obtain ⟨c⟩ := s
  unfold repS
  simp
theorem op_mulS {X : Cx} : OpR X (binaryOp .Mult) (fun x y H Q => ∃ (s : Str) (n : Int), x = .str s ∧ y = .int n ∧ 0 ≤ n ∧ n < 2 ^ 31 ∧ s.length * n.toNat ≤ sizeLine ∧ Q (.str (repS s n.toNat)) H) := by
  intro pins s σ H x y v u Q I rx ry h
  obtain ⟨z, n, rfl, rfl, h0, h1, h2, q⟩ := h
  obtain ⟨t, rfl⟩ := rx
  obtain ⟨t', rfl⟩ := ry
  have hs : sizeLine = 16777216 := sizeLine_eq
  refine PySem.P.mul_str ?_ (fun h3 h4 => ?_) (fun h3 h4 => ?_) ?_
  · have e1 : decide (n < -(2 ^ 63 : Int)) = false := decide_eq_false (by omega)
    have e2 : decide (n ≥ 2 ^ 63) = false := decide_eq_false (by omega)
    rw [e1, e2]
    rfl
  · have h5 : (z.length : Int) * n ≤ 16777216 := by
      have : ((z.length * n.toNat : Nat) : Int) ≤ 16777216 := by omega
      rw [Int.natCast_mul, Int.toNat_of_nonneg h0] at this
      exact this
    have h6 : (z.length : Int) ≤ (2 ^ 63 - 1) / n := by
      rw [Int.le_ediv_iff_mul_le (by omega)]
      omega
    omega
  · unfold Builtin.Str.tooLong
    exact decide_eq_false (by omega)
  · by_cases h3 : n < 1
    · rw [if_pos h3]
      have e : n = 0 := by omega
      subst e
      exact ⟨by decide, ⟨.str _, H, I.tok _, ⟨_, rfl⟩, q⟩⟩
    · rw [if_neg h3]
      by_cases h4 : (n == 1 || z.length == 0) = true
      · rw [if_pos h4]
        have e : repS z n.toNat = z := by
          rw [Bool.or_eq_true, beq_iff_eq, beq_iff_eq] at h4
          rcases h4 with rfl | h4
          · exact repS_one
          · exact repS_nil h4 _
        rw [e] at q
        exact ⟨.str z, H, I, ⟨_, rfl⟩, q⟩
      · rw [if_neg h4]
        refine ⟨?_, ⟨.str _, H, I.tok _, ⟨_, rfl⟩, q⟩⟩
        show (repS z n.toNat).length ≤ sizeLine
        rw [repS_length]
        exact h2
def R2d (W : Wd) (f : D → D → Sto → Post → Prop) : R2 := fun x y H Q => ∃ S dx dy QM, S.H = H ∧ Rl W S ∧ Rep W.K S.vw dx x ∧ Rep W.K S.vw dy y ∧ f dx dy S.μ QM ∧ After W S QM Q
section
variable {X : Cx} {T : List Addr} {cls : Nat → Addr}
theorem fresh_lst {W : Wd} {S : Ss} {QM : Post} {Q : VK} {ds : List D} {xs : List V} (R : Rl W S) (r : Reps W.K S.vw ds xs) (hb : QM (.lst ds) S.μ) (hq : After W S QM Q) :
    ∀ p, S.H p = none → Q (.ref p) (upd S.H p (.lst xs)) := fun p hp => by
  obtain ⟨l, R2, g⟩ := R.fresh (o := .lst xs) hp
  exact hq { S with H := upd S.H p (.lst xs) } (.lst ds) (.ref p) l R2 ⟨p, xs, rfl, g, r.mono l.1⟩ hb
theorem fresh_tup {W : Wd} {S : Ss} {QM : Post} {Q : VK} {ds : List D} {xs : List V} (R : Rl W S) (r : Reps W.K S.vw ds xs) (hb : QM (.tup ds) S.μ) (hq : After W S QM Q) :
    ∀ p, S.H p = none → Q (.ref p) (upd S.H p (.tup xs)) := fun p hp => by
  obtain ⟨l, R2, g⟩ := R.fresh (o := .tup xs) hp
  exact hq { S with H := upd S.H p (.tup xs) } (.tup ds) (.ref p) l R2 ⟨p, xs, rfl, SqT.of g, r.mono l.1⟩ hb
theorem bin_ok {o : Operator} : OpR X (binaryOp o) (R2d (wd X T cls) (binD o)) := by
  intro pins s σ _ x y v u Q I rx ry h0
  obtain ⟨S, dx, dy, QM, rfl, R, hx, hy, hb, hq⟩ := h0
  unfold binD at hb
  have fin : ∀ {d v}, Rep X.K S.vw d v → QM d S.μ → Q v S.H := fun r q => hq S _ _ (Ss.le.refl _) R r q
  split at hb
  · exact op_add pins s σ _ x y v u Q I rx ry ⟨_, _, hx, hy, fin (d := .int _) rfl hb⟩
  · exact op_sub pins s σ _ x y v u Q I rx ry ⟨_, _, hx, hy, fin (d := .int _) rfl hb⟩
  · exact op_mul pins s σ _ x y v u Q I rx ry ⟨_, _, hx, hy, hb.1, fin (d := .int _) rfl hb.2⟩
  · exact op_mulS pins s σ _ x y v u Q I rx ry ⟨_, _, hx, hy, hb.1.1, hb.1.2.1, hb.1.2.2, fin (d := .str _) rfl hb.2⟩
  · exact op_fdivN pins s σ _ x y v u Q I rx ry ⟨_, _, hx, hy, hb.1, fin (d := .int _) rfl hb.2⟩
  · exact op_modN pins s σ _ x y v u Q I rx ry ⟨_, _, hx, hy, hb.1, fin (d := .int _) rfl hb.2⟩
  · exact op_pow pins s σ _ x y v u Q I rx ry ⟨_, _, hx, hy, hb.1, fin (d := .int _) rfl hb.2⟩
  · exact op_add_str pins s σ _ x y v u Q I rx ry ⟨_, _, hx, hy, hb.1, fin (d := .str _) rfl hb.2⟩
  · split at hb
    · rename_i xs ys e1 e2
      obtain ⟨a, vx, r1, g1, q1⟩ := asLM_rep R hx e1
      obtain ⟨b, vy, r2, g2, q2⟩ := asLM_rep R hy e2
      exact op_cat pins s σ _ x y v u Q I rx ry ⟨a, b, vx, vy, r1, r2, g1, g2, by rw [q1.length, q2.length]; exact hb.1, fresh_lst R (q1.append q2) hb.2 hq⟩
    · exact hb.elim
  · exact hb.elim
def R2c (W : Wd) (o : CmpOp) : R2 := fun x y H Q => ∃ S dx dy QM, S.H = H ∧ Rl W S ∧ Rep W.K S.vw dx x ∧ Rep W.K S.vw dy y ∧ cmpD o dx dy S.μ QM ∧ ∀ b, QM b → Q (.bl b) H
theorem none_iff {W : Wd} {S : Ss} {d : D} {v : V} (r : Rep W.K S.vw d v) : decide (v = V.non) = isNonD d := by
  cases d with
  | non => have e : v = _ := r; subst e; rfl
  | bl b => have e : v = _ := r; subst e; rfl
  | int b => have e : v = _ := r; subst e; rfl
  | str b => have e : v = _ := r; subst e; rfl
  | ty b => have e : v = _ := r; subst e; rfl
  | fn b => have e : v = _ := r; subst e; rfl
  | tup ds => obtain ⟨a, xs, e, _⟩ := r; subst e; rfl
  | lst ds => obtain ⟨a, xs, e, _⟩ := r; subst e; rfl
  | scr ds => obtain ⟨a, xs, e, _⟩ := r; subst e; rfl
  | obj k => have e := r.2; subst e; rfl
theorem one_sign {i : Str} {c : Nat} (h : i.cps.toList = [c]) : i = ⟨#[c]⟩ := by
  cases i with
  | mk cps =>
    have e : cps = #[c] := by
      apply Array.toList_inj.mp
      exact h
    rw [e]
theorem asK_rep {W : Wd} {S : Ss} {d : D} {v : V} {kvs : List (Key × D)} (R : Rl W S) (r : Rep W.K S.vw d v) (h : asK d S.μ = some kvs) : ∃ a es, v = .ref a ∧ Rd S.H a (.dK es) ∧ RepP W.K S.vw kvs es := by
  unfold asK at h
  split at h
  · rename_i j
    split at h
    · rename_i c hc
      cases h
      obtain ⟨xs, e1, r2⟩ := R.ok _ _ hc
      exact ⟨_, xs, r.2, .inl e1, r2⟩
    · rename_i c hc
      cases h
      obtain ⟨e1, r2⟩ := R.ok _ _ hc
      exact ⟨_, _, r.2, .inr ⟨_, e1⟩, r2⟩
    · cases h
  · cases h
theorem dget_rd {H : Hp} {a : Addr} {es : List (Key × V)} {k : Key} (h : Rd H a (.dK es)) : DGet H a (kV k) (valV es k) := .inl ⟨es, k, h, rfl, rfl⟩
theorem val_rep {K : PySem.W.Frag} {w : Vw} {k : Key} : ∀ {kvs : List (Key × D)} {es : List (Key × V)}, RepP K w kvs es → match valD kvs k with
    | some d => ∃ v, valV es k = some v ∧ Rep K w d v
    | none => valV es k = none
  | [], _, h => by
    have h : _ = [] := h
    subst h
    exact rfl
  | (a, d) :: kvs, _, ⟨x, r, e, h, t⟩ => by
    subst e
    unfold valD valV
    rw [List.find?_cons, List.find?_cons]
    by_cases ha : a = k
    · subst ha
      simp only [decide_true]
      exact ⟨x, rfl, h⟩
    · simp only [ha, decide_false]
      exact val_rep t
theorem key_rep {K : PySem.W.Frag} {w : Vw} {d : D} {v : V} {k : Key} (h : keyOf d = some k) (r : Rep K w d v) : v = kV k := by
  unfold keyOf at h
  split at h
  · cases h; exact r
  · cases h; exact r
  · cases h
theorem RepP.len {κ : Type} {K : PySem.W.Frag} {w : Vw} : ∀ {fs : List (κ × D)} {es : List (κ × V)}, RepP K w fs es → es.length = fs.length
  | [], es, h => by
    have e : es = [] := h
    subst e
    rfl
  | (g, d) :: fs, es, h => by
    obtain ⟨x, r, rfl, h1, h2⟩ := h
    rw [List.length_cons, List.length_cons, RepP.len h2]
theorem RepP.any {K : PySem.W.Frag} {w : Vw} {k : Key} : ∀ {fs : List (Key × D)} {es : List (Key × V)}, RepP K w fs es → (es.any fun kv => decide (kv.1 = k)) = fs.any fun kv => decide (kv.1 = k)
  | [], es, h => by
    have e : es = [] := h
    subst e
    rfl
  | (g, d) :: fs, es, h => by
    obtain ⟨x, r, rfl, h1, h2⟩ := h
    rw [List.any_cons, List.any_cons, RepP.any h2]
theorem RepP.map_put {K : PySem.W.Frag} {w : Vw} {k : Key} {d : D} {v : V} (r : Rep K w d v) : ∀ {fs : List (Key × D)} {es : List (Key × V)}, RepP K w fs es → RepP K w (fs.map fun kv => if kv.1 = k then (kv.1, d) else kv) (es.map fun kv => if kv.1 = k then (kv.1, v) else kv)
  | [], es, h => by
    have e : es = [] := h
    subst e
    exact rfl
  | (g, x) :: fs, es, h => by
    obtain ⟨y, t, rfl, h1, h2⟩ := h
    rw [List.map_cons, List.map_cons]
    by_cases e : g = k
    · rw [if_pos e, if_pos e]
      exact ⟨v, _, rfl, r, RepP.map_put r h2⟩
    · rw [if_neg e, if_neg e]
      exact ⟨y, _, rfl, h1, RepP.map_put r h2⟩
theorem RepP.append {κ : Type} {K : PySem.W.Frag} {w : Vw} : ∀ {fs gs : List (κ × D)} {es ms : List (κ × V)}, RepP K w fs es → RepP K w gs ms → RepP K w (fs ++ gs) (es ++ ms)
  | [], gs, es, ms, h, q => by
    have e : es = [] := h
    subst e
    exact q
  | (g, x) :: fs, gs, es, ms, h, q => by
    obtain ⟨y, t, rfl, h1, h2⟩ := h
    exact ⟨y, _, rfl, h1, RepP.append h2 q⟩
theorem RepP.put {K : PySem.W.Frag} {w : Vw} {k : Key} {d : D} {v : V} {fs : List (Key × D)} {es : List (Key × V)} (h : RepP K w fs es) (r : Rep K w d v) : RepP K w (putD fs k d) (putK es k v) := by
  unfold putD putK
  rw [h.any]
  split
  · exact h.map_put r
  · exact h.append ⟨v, [], rfl, r, rfl⟩
theorem RepP.drop {K : PySem.W.Frag} {w : Vw} {k : Key} : ∀ {fs : List (Key × D)} {es : List (Key × V)}, RepP K w fs es → RepP K w (dropD fs k) (dropK es k)
  | [], es, h => by
    have e : es = [] := h
    subst e
    exact rfl
  | (g, x) :: fs, es, h => by
    obtain ⟨y, t, rfl, h1, h2⟩ := h
    have ih := RepP.drop (k := k) h2
    unfold dropD dropK at ih ⊢
    rw [List.filter_cons, List.filter_cons]
    by_cases e : g = k
    · rw [if_neg (by simp [e]), if_neg (by simp [e])]
      exact ih
    · rw [if_pos (by simp [e]), if_pos (by simp [e])]
      exact ⟨y, _, rfl, h1, ih⟩
theorem tupO_facts {f : D → D → Option Bool} {z b : Bool} {xs ys : List D} {e r : Nat → Bool} (he : ∀ j, e j = deq (xs.getD j .non) (ys.getD j .non)) (hr : ∀ j, r j = (f (xs.getD j .non) (ys.getD j .non)).getD false) (hl : xs.length = ys.length) :
    ∀ (k i : Nat), i + k = xs.length → tupO f z (xs.drop i) (ys.drop i) = some b → Ob.lexAt e r z i k = b ∧
      ∀ j, i ≤ j → j < xs.length → (∀ m, i ≤ m → m < j → e m = true) → flatD (xs.getD j .non) = true ∧ flatD (ys.getD j .non) = true ∧ (e j = false → f (xs.getD j .non) (ys.getD j .non) = some (r j))
  | 0, i, hk, h => by
    rw [List.drop_of_length_le (by omega), List.drop_of_length_le (by omega)] at h
    have h : some z = some b := h
    exact ⟨Option.some.inj h, fun j h1 h2 => by omega⟩
  | k + 1, i, hk, h => by
    have hi : i < xs.length := by omega
    have hi' : i < ys.length := by omega
    rw [List.drop_eq_getElem_cons hi, List.drop_eq_getElem_cons hi'] at h
    have gx : xs.getD i .non = xs[i] := by simp [List.getD, hi]
    have gy : ys.getD i .non = ys[i] := by simp [List.getD, hi']
    unfold tupO at h
    split at h
    · rename_i fl
      by_cases q : deq xs[i] ys[i] = true
      · rw [if_pos q] at h
        obtain ⟨h1, h2⟩ := tupO_facts he hr hl k (i + 1) (by omega) h
        have ei : e i = true := by rw [he, gx, gy]; exact q
        refine ⟨by rw [Ob.lexAt_succ, if_pos ei]; exact h1, fun j hj hj2 hp => ?_⟩
        rcases Nat.lt_or_eq_of_le hj with c | c
        · exact h2 j c hj2 fun m hm hm2 => hp m (by omega) hm2
        · subst c
          rw [gx, gy]
          exact ⟨fl.1, fl.2, fun q2 => by rw [ei] at q2; cases q2⟩
      · rw [if_neg q] at h
        have ei : e i = false := by rw [he, gx, gy]; simpa using q
        have ri : r i = b := by rw [hr, gx, gy, h]; rfl
        refine ⟨by rw [Ob.lexAt_succ, if_neg (by simp [ei])]; exact ri, fun j hj hj2 hp => ?_⟩
        rcases Nat.lt_or_eq_of_le hj with c | c
        · have := hp i (Nat.le_refl _) c
          rw [ei] at this
          cases this
        · subst c
          rw [gx, gy]
          exact ⟨fl.1, fl.2, fun _ => by rw [ri]; exact h⟩
    · cases h
theorem ltF_ok {A : Around} {s : Shared} {W : Wd} {w : Vw} {d e : D} {x y : V} {u v : Value} {b : Bool} (rd : Rep W.K w d x) (re : Rep W.K w e y) (ru : RelV x u) (rv : RelV y v) (h : ltF d e = some b) : Ob.RcOp .Lt A s u v b := by
  unfold ltF at h
  split at h
  · cases h
    have e1 : x = _ := rd
    have e2 : y = _ := re
    subst e1 e2
    obtain ⟨t, rfl⟩ := ru
    obtain ⟨t', rfl⟩ := rv
    exact Ob.RcOp.lt_int _ _ _ _
  · cases h
    have e1 : x = _ := rd
    have e2 : y = _ := re
    subst e1 e2
    obtain ⟨t, rfl⟩ := ru
    obtain ⟨t', rfl⟩ := rv
    exact Tp.lt_text _ _ _ _
  · cases h
theorem leF_ok {A : Around} {s : Shared} {W : Wd} {w : Vw} {d e : D} {x y : V} {u v : Value} {b : Bool} (rd : Rep W.K w d x) (re : Rep W.K w e y) (ru : RelV x u) (rv : RelV y v) (h : leF d e = some b) : Ob.RcOp .LtE A s u v b := by
  unfold leF at h
  split at h
  · cases h
    have e1 : x = _ := rd
    have e2 : y = _ := re
    subst e1 e2
    obtain ⟨t, rfl⟩ := ru
    obtain ⟨t', rfl⟩ := rv
    exact Ob.RcOp.le_int _ _ _ _
  · cases h
    have e1 : x = _ := rd
    have e2 : y = _ := re
    subst e1 e2
    obtain ⟨t, rfl⟩ := ru
    obtain ⟨t', rfl⟩ := rv
    exact Tp.le_text _ _ _ _
  · cases h
theorem vals_getD : ∀ {xs : List V} {us : List Value} (j : Nat), Vals xs us → (h : j < us.length) → ∃ x, xs[j]? = some x ∧ RelV x us[j]
  | _, _, j, .nil, h => absurd h (Nat.not_lt_zero _)
  | _, _, 0, .cons r _, h => ⟨_, rfl, r⟩
  | _, _, j + 1, .cons _ t, h => vals_getD j t (by simpa using h)
theorem tup_ok {o : CmpOp} {f : D → D → Option Bool} {z b : Bool} {S : Ss} {xs ys : List D} {p q : V} {u v : Value} {s : Shared} {pins : List (Addr × Obj)} {σ : L2.St} (hu : X.A.units < cLine) (I : L2.Inv X pins σ S.H s) (rp : Rep X.K S.vw (.tup xs) p) (rq : Rep X.K S.vw (.tup ys) q) (ru : RelV p u) (rv : RelV q v)
    (hl : xs.length = ys.length) (h : tupO f z xs ys = some b)
    (rule : ∀ {l m : Addr} {its jts : Array Value} {e r : Nat → Bool}, s.heap.IsTuple l its → s.heap.IsTuple m jts → its.size = jts.size → (∀ j (a1 : j < its.size) (a2 : j < jts.size), Tp.Pre e j → SeqAt.EqAt X.A.in1 s its[j] jts[j] (e j)) → (∀ j (a1 : j < its.size) (a2 : j < jts.size), Tp.Pre e j → e j = false → Ob.RcOp o X.A.in1 s its[j] jts[j] (r j)) →
      Ob.RcOp o X.A s (.ref l) (.ref m) (Ob.lexAt e r z 0 its.size))
    (ord : ∀ {A : Around} {d e : D} {x y : V} {u v : Value} {b : Bool}, Rep X.K S.vw d x → Rep X.K S.vw e y → RelV x u → RelV y v → f d e = some b → Ob.RcOp o A s u v b) : Ob.RcOp o X.A s u v b := by
  obtain ⟨l, vs, rfl, g1, q1⟩ := rp
  obtain ⟨m, ws, rfl, g2, q2⟩ := rq
  cases ru
  cases rv
  obtain ⟨its, r1, p1, _⟩ := I.tuple (hid_ext.sqt g1)
  obtain ⟨jts, r2, p2, _⟩ := I.tuple (hid_ext.sqt g2)
  have n1 : its.length = xs.length := by rw [← r1.length, q1.length]
  have n2 : jts.length = ys.length := by rw [← r2.length, q2.length]
  obtain ⟨h1, h2⟩ := tupO_facts (f := f) (z := z) (b := b) (xs := xs) (ys := ys) (e := fun j => deq (xs.getD j .non) (ys.getD j .non)) (r := fun j => (f (xs.getD j .non) (ys.getD j .non)).getD false) (fun _ => rfl) (fun _ => rfl) hl xs.length 0 (by omega) (by simpa using h)
  have items : ∀ j (a1 : j < its.toArray.size) (a2 : j < jts.toArray.size), ∃ x y, Rep X.K S.vw (xs.getD j .non) x ∧ Rep X.K S.vw (ys.getD j .non) y ∧ RelV x its.toArray[j] ∧ RelV y jts.toArray[j] ∧ j < xs.length := fun j a1 a2 => by
    have b1 : j < its.length := by simpa using a1
    have b2 : j < jts.length := by simpa using a2
    obtain ⟨x, ex, rx⟩ := vals_getD j r1 b1
    obtain ⟨y, ey, ry⟩ := vals_getD j r2 b2
    obtain ⟨dx, edx, rdx⟩ := q1.get' ex
    obtain ⟨dy, edy, rdy⟩ := q2.get' ey
    exact ⟨x, y, by simpa [List.getD, edx] using rdx, by simpa [List.getD, edy] using rdy, by simpa using rx, by simpa using ry, by omega⟩
  have key := rule (e := fun j => deq (xs.getD j .non) (ys.getD j .non)) (r := fun j => (f (xs.getD j .non) (ys.getD j .non)).getD false) p1 p2 (by simp [n1, n2, hl]) (fun j a1 a2 pr => by
    obtain ⟨x, y, rdx, rdy, rx, ry, hj⟩ := items j a1 a2
    obtain ⟨f1, f2, _⟩ := h2 j (Nat.zero_le _) hj fun m _ hm => pr m hm
    have := eqAt_V (A := X.A.in1) (s := s) rx ry (flat_rep f1 rdx) (flat_rep f2 rdy)
    rw [flat_eq f1 f2 rdx rdy] at this
    exact this) (fun j a1 a2 pr hf => by
    obtain ⟨x, y, rdx, rdy, rx, ry, hj⟩ := items j a1 a2
    obtain ⟨_, _, f3⟩ := h2 j (Nat.zero_le _) hj fun m _ hm => pr m hm
    exact ord rdx rdy rx ry (f3 hf))
  rw [show its.toArray.size = xs.length by simp [n1]] at key
  have h1 : Ob.lexAt (fun j => deq (xs.getD j .non) (ys.getD j .non)) (fun j => (f (xs.getD j .non) (ys.getD j .non)).getD false) z 0 xs.length = b := h1
  rw [h1] at key
  exact key
theorem cmp_ok {o : CmpOp} (hu : X.A.units + 65 < cLine) : OpR X (compareOp o) (R2c (wd X T cls) o) := by
  intro pins s σ _ x y v u Q I rx ry h0
  obtain ⟨S, dx, dy, QM, rfl, R, hx, hy, hb, hq⟩ := h0
  unfold cmpD at hb
  have eqs : ∀ {dx dy : D} {x y : V} {v u : Value}, RelV x v → RelV y u → Dp X.K S.H x (pyOf dx) → Dp X.K S.H y (pyOf dy) → ∃ as bs, Reads s.heap v (pyOf dx) as ∧ Reads s.heap u (pyOf dy) bs := fun {dx dy x y v u} rx ry p1 p2 => by
    obtain ⟨as, r1⟩ := Dp.reads I _ x v p1 rx
    obtain ⟨bs, r2⟩ := Dp.reads I _ y u p2 ry
    exact ⟨as, bs, r1, r2⟩
  split at hb
  · obtain ⟨h1, h2, h3⟩ := hb
    obtain ⟨p1, s1, t1⟩ := drf_dp R hx h1
    obtain ⟨p2, s2, t2⟩ := drf_dp R hy h2
    obtain ⟨as, bs, r1, r2⟩ := eqs rx ry p1 p2
    exact SeqAt.eq_plain r1 r2 s1 s2 (by omega) ⟨.bl _, _, I, rfl, hq _ h3⟩
  · obtain ⟨h1, h2, h3⟩ := hb
    obtain ⟨p1, s1, t1⟩ := drf_dp R hx h1
    obtain ⟨p2, s2, t2⟩ := drf_dp R hy h2
    obtain ⟨as, bs, r1, r2⟩ := eqs rx ry p1 p2
    exact SeqAt.ne_plain r1 r2 s1 s2 (by omega) ⟨.bl _, _, I, rfl, hq _ h3⟩
  · exact op_lt pins s σ _ x y v u Q I rx ry ⟨_, _, hx, hy, hq _ hb⟩
  · exact op_le pins s σ _ x y v u Q I rx ry ⟨_, _, hx, hy, hq _ hb⟩
  · exact op_gt pins s σ _ x y v u Q I rx ry ⟨_, _, hx, hy, hq _ hb⟩
  · exact op_ge pins s σ _ x y v u Q I rx ry ⟨_, _, hx, hy, hq _ hb⟩
  · exact op_lt_str pins s σ _ x y v u Q I rx ry ⟨_, _, hx, hy, hq _ hb⟩
  · rename_i i j
    unfold strIn at hb
    split at hb
    · rename_i c e
      exact op_in_sign pins s σ _ x y v u Q I rx ry ⟨c, j, by rw [← one_sign e]; exact hx, hy, hq _ hb⟩
    · exact op_in_str pins s σ _ x y v u Q I rx ry ⟨_, _, hx, hy, hq _ hb⟩
  · rename_i i j
    unfold strIn at hb
    split at hb
    · rename_i c e
      exact op_notIn_sign pins s σ _ x y v u Q I rx ry ⟨c, j, by rw [← one_sign e]; exact hx, hy, hq _ hb⟩
    · exact op_notIn_str pins s σ _ x y v u Q I rx ry ⟨_, _, hx, hy, hq _ hb⟩
  · rename_i ys
    obtain ⟨h1, h2, h3⟩ := hb
    obtain ⟨p1, s1, t1⟩ := eqOk_dp hx h1
    obtain ⟨p2, s2, t2⟩ := eqOk_dp hy h2
    obtain ⟨as, bs, r1, r2⟩ := eqs rx ry p1 p2
    refine SeqAt.in_tuple_data r2 r1 s2 s1 (by omega) ⟨.bl _, _, I, rfl, ?_⟩
    rw [pyOfs_any]
    exact hq _ h3
  · rename_i ys
    obtain ⟨h1, h2, h3⟩ := hb
    obtain ⟨p1, s1, t1⟩ := eqOk_dp hx h1
    obtain ⟨p2, s2, t2⟩ := eqOk_dp hy h2
    obtain ⟨as, bs, r1, r2⟩ := eqs rx ry p1 p2
    refine SeqAt.notIn_tuple_data r2 r1 s2 s1 (by omega) ⟨.bl _, _, I, rfl, ?_⟩
    rw [pyOfs_any]
    exact hq _ h3
  · split at hb
    · rename_i ys e
      obtain ⟨h1, h2, h3⟩ := hb
      obtain ⟨a, xs, e1, g1, q1⟩ := asLM_rep R hy e
      obtain ⟨p1, s1, t1⟩ := eqOk_dp hx h1
      have h2' := eqN_ok 12 (.lst ys) h2
      have p2 : Dp X.K S.H y (pyOf (.lst ys)) := by rw [e1]; exact .lst (SqL.of g1) (dps_of hid_ext q1 h2'.1)
      obtain ⟨as, bs, r1, r2⟩ := eqs rx ry p1 p2
      refine SeqAt.in_list_data r2 r1 h2'.2.1 s1 (by omega) ⟨.bl _, _, I, rfl, ?_⟩
      rw [pyOfs_any]
      exact hq _ h3
    · split at hb
      · rename_i kvs key e1 e2
        obtain ⟨a, es, e3, ha, re⟩ := asK_rep R hy e1
        subst e3
        obtain rfl : u = Value.ref a := ry
        have := key_rep e2 hx
        subst this
        have hs := (val_rep (k := key) re)
        have hz : (valV es key).isSome = (valD kvs key).isSome := by
          cases hd : valD kvs key with
          | some d => rw [hd] at hs; obtain ⟨v', ev, _⟩ := hs; rw [ev]; rfl
          | none => rw [hd] at hs; rw [hs]; rfl
        exact d_in (by omega) I (dget_rd ha) rx fun s' I' => ⟨.bl _, _, I', rfl, by rw [hz]; exact hq _ hb⟩
      · exact hb.elim
  · split at hb
    · rename_i ys e
      obtain ⟨h1, h2, h3⟩ := hb
      obtain ⟨a, xs, e1, g1, q1⟩ := asLM_rep R hy e
      obtain ⟨p1, s1, t1⟩ := eqOk_dp hx h1
      have h2' := eqN_ok 12 (.lst ys) h2
      have p2 : Dp X.K S.H y (pyOf (.lst ys)) := by rw [e1]; exact .lst (SqL.of g1) (dps_of hid_ext q1 h2'.1)
      obtain ⟨as, bs, r1, r2⟩ := eqs rx ry p1 p2
      refine SeqAt.notIn_list_data r2 r1 h2'.2.1 s1 (by omega) ⟨.bl _, _, I, rfl, ?_⟩
      rw [pyOfs_any]
      exact hq _ h3
    · split at hb
      · rename_i kvs key e1 e2
        obtain ⟨a, es, e3, ha, re⟩ := asK_rep R hy e1
        subst e3
        obtain rfl : u = Value.ref a := ry
        have := key_rep e2 hx
        subst this
        have hs := (val_rep (k := key) re)
        have hz : (valV es key).isSome = (valD kvs key).isSome := by
          cases hd : valD kvs key with
          | some d => rw [hd] at hs; obtain ⟨v', ev, _⟩ := hs; rw [ev]; rfl
          | none => rw [hd] at hs; rw [hs]; rfl
        exact d_notIn (by omega) I (dget_rd ha) rx fun s' I' => ⟨.bl _, _, I', rfl, by rw [hz]; exact hq _ hb⟩
      · exact hb.elim
  · obtain ⟨hl, hb⟩ := hb
    split at hb
    · rename_i b e
      exact tup_ok (o := .Lt) (z := false) (by omega) I hx hy rx ry hl e (fun {l m its jts e r} p1 p2 hn he hr => by
        have := Tp.tup_lt (A := X.A) p1 p2 (by omega) he hr
        rw [hn, Nat.min_self, decide_eq_false (Nat.lt_irrefl _)] at this
        rw [hn]
        exact this) (fun a b c d e => ltF_ok (W := wd X T cls) a b c d e) X.prog X.w X.xe (EP X pins σ Q) ⟨.bl b, _, I, rfl, hq _ hb⟩
    · exact hb.elim
  · obtain ⟨hl, hb⟩ := hb
    split at hb
    · rename_i b e
      exact tup_ok (o := .LtE) (z := true) (by omega) I hx hy rx ry hl e (fun {l m its jts e r} p1 p2 hn he hr => by
        have := Tp.tup_le (A := X.A) p1 p2 (by omega) he hr
        rw [hn, Nat.min_self, decide_eq_true (Nat.le_refl _)] at this
        rw [hn]
        exact this) (fun a b c d e => leF_ok (W := wd X T cls) a b c d e) X.prog X.w X.xe (EP X pins σ Q) ⟨.bl b, _, I, rfl, hq _ hb⟩
    · exact hb.elim
  · exact op_is_bl pins s σ _ x y v u Q I rx ry ⟨_, _, hx, hy, hq _ hb⟩
  · exact op_isnot_bl pins s σ _ x y v u Q I rx ry ⟨_, _, hx, hy, hq _ hb⟩
  · refine op_isN pins s σ _ x y v u Q I rx ry ⟨hy, ?_⟩
    rw [none_iff hx]
    exact hq _ hb
  · refine op_notN pins s σ _ x y v u Q I rx ry ⟨hy, ?_⟩
    rw [none_iff hx]
    exact hq _ hb
  · exact hb.elim
theorem reps_at {K : PySem.W.Frag} {w : Vw} {ds : List D} {xs : List V} {i : Int} {d : D} (r : Reps K w ds xs) (h : atI ds i = some d) : ∃ v, atI xs i = some v ∧ Rep K w d v := by
  unfold atI at h ⊢
  rw [r.length]
  cases e : ixN ds.length i with
  | none => rw [e] at h; cases h
  | some j =>
    rw [e] at h
    exact r.get h
theorem ix_dct (hu : X.A.units + 1 < cLine) : IxR X (fun x y H Q => ∃ a v, x = .ref a ∧ DGet H a y (some v) ∧ Q v H) := by
  intro value slice pins s σ H x y v u Q I rx ry h0 hs
  obtain ⟨a, r, rfl, g, q⟩ := h0
  obtain rfl : v = Value.ref a := rx
  exact tail_any (dict_typeIs I g) PySem.F.slot_dict_getitem.lookup (d_getItem hu I g ry fun w' s' I' rw' => ⟨r, H, I', rw', q⟩) hs
theorem ix_ok (hu : X.A.units + 1 < cLine) : IxR X (R2d (wd X T cls) ixD) := by
  intro value slice pins s σ _ x y v u Q I rx ry h0 hs
  obtain ⟨S, dx, dy, QM, rfl, R, hx, hy, hb, hq⟩ := h0
  have fin : ∀ {d v}, Rep X.K S.vw d v → QM d S.μ → Q v S.H := fun r q => hq S _ _ (Ss.le.refl _) R r q
  unfold ixD at hb
  split at hb
  · obtain ⟨h1, h2⟩ := hb
    split at h2
    · rename_i c e
      exact ix_str value slice pins s σ _ x y v u Q I rx ry ⟨_, _, c, hx, hy, h1, e, fin (d := .str _) rfl h2⟩ hs
    · exact h2.elim
  · split at hb
    · rename_i xs i e _
      split at hb
      · rename_i d e2
        obtain ⟨a, vs, e1, g1, q1⟩ := asSeq_rep R hx e
        obtain ⟨vv, hw, hrv⟩ := reps_at q1 e2
        rcases g1 with g1 | g1
        · exact ix_list value slice pins s σ _ x y v u Q I rx ry ⟨a, vs, _, vv, e1, hy, g1, hw, fin hrv hb⟩ hs
        · exact ix_tup value slice pins s σ _ x y v u Q I rx ry ⟨a, vs, _, vv, e1, hy, g1, hw, fin hrv hb⟩ hs
      · exact hb.elim
    · split at hb
      · rename_i kvs key e1 e2
        split at hb
        · rename_i d e3
          obtain ⟨a, es, rfl, ha, re⟩ := asK_rep R hx e1
          have := key_rep e2 hy
          subst this
          have hv := val_rep (k := key) re
          rw [e3] at hv
          obtain ⟨v', ev, rv⟩ := hv
          exact ix_dct hu value slice pins s σ _ _ _ v u Q I rx ry ⟨a, v', rfl, by rw [← ev]; exact dget_rd ha, fin rv hb⟩ hs
        · exact hb.elim
      · exact hb.elim
    · exact hb.elim
def RSd (W : Wd) : V → Option Int → Option Int → Hp → VK → Prop := fun x lo hi H Q => ∃ S dx QM, S.H = H ∧ Rl W S ∧ Rep W.K S.vw dx x ∧ slD dx lo hi S.μ QM ∧ After W S QM Q
theorem reps_cut {K : PySem.W.Frag} {w : Vw} {ds : List D} {xs : List V} {lo hi : Option Int} (r : Reps K w ds xs) : Reps K w (cutD ds lo hi) (cutV xs lo hi) := by
  unfold cutD cutV
  rw [r.length]
  exact (r.drop _).take _
theorem cut_whole {α : Type} {xs : List α} {lo hi : Option Int} (h : HT.sIx xs.length 0 lo = 0 ∧ HT.sIx xs.length xs.length hi = xs.length) : cutD xs lo hi = xs := by
  unfold cutD
  rw [h.1, h.2]
  simp
theorem sl_ok : SlR X (RSd (wd X T cls)) := by
  intro pins s σ _ x v vl vu lo hi sl Q I rx hs pl pu h0
  obtain ⟨S, dx, QM, rfl, R, hx, hb, hq⟩ := h0
  unfold slD at hb
  split at hb
  · rename_i z
    exact sl_str pins s σ _ x v vl vu lo hi sl Q I rx hs pl pu ⟨z, hx, hb.1, hq S (.str _) _ (Ss.le.refl _) R rfl hb.2⟩
  · rename_i ds
    obtain ⟨a, vs, e1, g1, q1⟩ := hx
    subst e1
    exact sl_tupA pins s σ _ _ v vl vu lo hi sl Q I rx hs pl pu ⟨a, vs, rfl, hid_ext.sqt g1, fun hh => hq S (.tup _) _ (Ss.le.refl _) R ⟨a, vs, rfl, g1, by rw [cut_whole (by rw [← q1.length]; exact hh)]; exact q1⟩ hb, fun _ => fresh_tup R (reps_cut q1) hb hq⟩
  · split at hb
    · rename_i ds e
      obtain ⟨a, vs, e1, g1, q1⟩ := asL_rep R hx e
      exact sl_list pins s σ _ x v vl vu lo hi sl Q I rx hs pl pu ⟨a, vs, e1, g1, fresh_lst R (reps_cut q1) hb hq⟩
    · exact hb.elim
theorem tru_rep {W : Wd} {S : Ss} {d : D} {v : V} {QM : Bool → Prop} (R : Rl W S) (r : Rep W.K S.vw d v) (h : truD d S.μ QM) : ∃ k, TruV W.K v S.H k ∧ QM k := by
  have isE : ∀ {ds : List D} {xs : List V}, Reps W.K S.vw ds xs → (!ds.isEmpty) = !xs.isEmpty := fun {ds xs} q => by
    have := q.length
    cases ds <;> cases xs <;> first | rfl | simp at this
  unfold truD at h
  split at h
  · have e : v = _ := r; subst e; exact ⟨_, rfl, h⟩
  · have e : v = _ := r; subst e; exact ⟨_, rfl, h⟩
  · have e : v = _ := r; subst e; exact ⟨_, rfl, h⟩
  · have e : v = _ := r; subst e; exact ⟨_, ⟨h.1, rfl⟩, h.2⟩
  · split at h
    · rename_i ds e
      obtain ⟨a, xs, e1, g1, q1⟩ := asSeq_rep R r e
      subst e1
      rw [isE q1] at h
      rcases g1 with g1 | g1
      · exact ⟨_, .inl ⟨xs, g1, rfl⟩, h⟩
      · exact ⟨_, .inr (.inl ⟨xs, g1, rfl⟩), h⟩
    · split at h
      · rename_i kvs e
        unfold asKM at e
        split at e
        · rename_i k
          split at e
          · rename_i c hc
            cases e
            obtain ⟨es, e1, r2⟩ := R.ok _ _ hc
            have e2 := r.2
            subst e2
            refine ⟨_, .inr (.inr ⟨es, e1, rfl⟩), ?_⟩
            have : (!kvs.isEmpty) = !es.isEmpty := by
              cases kvs with
              | nil => cases (show es = [] from r2); rfl
              | cons p t =>
                obtain ⟨k1, d1⟩ := p
                obtain ⟨x, t2, e3, _⟩ := r2
                subst e3
                rfl
            rw [this] at h
            exact h
          · cases e
        · cases e
      · exact h.elim
end
end M
end
section
set_option autoImplicit true
namespace M
open PySem PySem.Spec PyProof.Rows L2
def AfterA (W : Wd) (S : Ss) (QM : List D → Sto → Prop) (Q : List V → Hp → Prop) : Prop := ∀ S' ds vs, S.le S' → Rl W S' → Reps W.K S'.vw ds vs → QM ds S'.μ → Q vs S'.H
def AfterO (W : Wd) (S : Ss) (QM : Option Int → Sto → Prop) (Q : Option Int → Hp → Prop) : Prop := ∀ S' o, S.le S' → Rl W S' → QM o S'.μ → Q o S'.H
theorem AfterA.le {W : Wd} {S S' : Ss} {QM : List D → Sto → Prop} {Q : List V → Hp → Prop} (l : S.le S') (h : AfterA W S QM Q) : AfterA W S' QM Q := fun S2 ds vs l2 => h S2 ds vs (l.trans l2)
theorem AfterO.le {W : Wd} {S S' : Ss} {QM : Option Int → Sto → Prop} {Q : Option Int → Hp → Prop} (l : S.le S') (h : AfterO W S QM Q) : AfterO W S' QM Q := fun S2 o l2 => h S2 o (l.trans l2)
def IterD (W : Wd) (J : It) (ds : List D) (gd : Sto → Prop) (S0 : Ss) : Prop :=
  ∀ S, S0.vw.le S.vw → Rl W S → gd S.μ → J.stop ds.length S.H ∧ ∀ i, i < ds.length → J.go i S.H ∧ ∀ x H', J.yld i S.H x H' → ∃ S' d, S.le S' ∧ Rl W S' ∧ S'.H = H' ∧ S'.μ = S.μ ∧ ds[i]? = some d ∧ Rep W.K S'.vw d x
theorem IterD.le {W : Wd} {J : It} {ds : List D} {gd : Sto → Prop} {S0 S1 : Ss} (l : S0.vw.le S1.vw) (h : IterD W J ds gd S0) : IterD W J ds gd S1 := fun S l2 => h S (l.trans l2)
def AfterI (W : Wd) (S : Ss) (KI : IPost) (R : It → Hp → Prop) : Prop := ∀ S' J ds gd, S.le S' → Rl W S' → IterD W J ds gd S' → KI ds gd S'.μ → R J S'.H
def DE (W : Wd) (Wx : WX) (c : IR) : TE := fun σ H Q => ∃ S δ QM QX, S.H = H ∧ Rl W S ∧ EnvR W S.vw δ σ ∧ wpE c δ S.μ QM QX ∧ After W S QM Q ∧ AfterX W S QX (WE Wx σ)
def DT (W : Wd) (Wx : WX) (c : IR) : TT := fun σ H Q => ∃ S δ QM QX, S.H = H ∧ Rl W S ∧ EnvR W S.vw δ σ ∧ wpT c δ S.μ QM QX ∧ AfterB W S QM Q ∧ AfterX W S QX (WE Wx σ)
def DA (W : Wd) (Wx : WX) (c : IR) : TA := fun σ H Q => ∃ S δ QM QX, S.H = H ∧ Rl W S ∧ EnvR W S.vw δ σ ∧ wpA c δ S.μ QM QX ∧ AfterA W S QM Q ∧ AfterX W S QX (WE Wx σ)
def DO (W : Wd) (Wx : WX) (c : IR) : TO := fun σ H Q => ∃ S δ QM QX, S.H = H ∧ Rl W S ∧ EnvR W S.vw δ σ ∧ wpOpt c (fun μ K => wpE c δ μ K QX) S.μ QM ∧ AfterO W S QM Q ∧ AfterX W S QX (WE Wx σ)
def DI (W : Wd) (Wx : WX) (c : IR) : TI := fun σ H R => ∃ S δ KI QX, S.H = H ∧ Rl W S ∧ EnvR W S.vw δ σ ∧ wpI c δ S.μ KI QX ∧ AfterI W S KI R ∧ AfterX W S QX (WE Wx σ)
def slotsG : IR → List Nat
  | .gN i => [i]
  | .gT _ gs => slotsG gs
  | .cons g r => slotsG g ++ slotsG r
  | _ => []
def AfterG (W : Wd) (S : Ss) (c : IR) (σ : L2.St) (QG : Env → Sto → Prop) (Q : L2.St → Hp → Prop) : Prop :=
  ∀ S' δ' σ', S.le S' → Rl W S' → EnvR W S'.vw δ' σ' → (σ'.length = σ.length ∧ ∀ j, j ∉ slotsG c → σ'[j]? = σ[j]?) → QG δ' S'.μ → Q σ' S'.H
def DG (W : Wd) (c : IR) : TG := fun v σ H Q => ∃ S δ d QG, S.H = H ∧ Rl W S ∧ EnvR W S.vw δ σ ∧ Rep W.K S.vw d v ∧ wpG c d δ S.μ QG ∧ AfterG W S c σ QG Q
def DGs (W : Wd) (c : IR) : TGs := fun vs σ H Q => ∃ S δ ds QG, S.H = H ∧ Rl W S ∧ EnvR W S.vw δ σ ∧ Reps W.K S.vw ds vs ∧ wpGs c ds δ S.μ QG ∧ AfterG W S c σ QG Q
structure ContS (W : Wd) (Wx : WX) (O : Outs) (E : Ends) (S : Ss) : Prop where
  nx : ∀ S' δ' σ', S.le S' → Rl W S' → EnvR W S'.vw δ' σ' → O.nx δ' S'.μ → E.nx σ' S'.H
  rt : After W S O.rt E.rt
  bk : ∀ S' δ' σ', S.le S' → Rl W S' → EnvR W S'.vw δ' σ' → O.bk δ' S'.μ → E.bk σ' S'.H
  ct : ∀ S' δ' σ', S.le S' → Rl W S' → EnvR W S'.vw δ' σ' → O.ct δ' S'.μ → E.ct σ' S'.H
  xc : ∀ S' x δ' σ', S.le S' → Rl W S' → EnvR W S'.vw δ' σ' → O.xc x δ' S'.μ → Wx (.ref (W.cls x)) none σ' S'.H
theorem ContS.le {W : Wd} {Wx : WX} {O : Outs} {E : Ends} {S S' : Ss} (l : S.le S') (h : ContS W Wx O E S) : ContS W Wx O E S' :=
  ⟨fun S2 δ σ l2 => h.nx S2 δ σ (l.trans l2), h.rt.le l, fun S2 δ σ l2 => h.bk S2 δ σ (l.trans l2), fun S2 δ σ l2 => h.ct S2 δ σ (l.trans l2), fun S2 x δ σ l2 => h.xc S2 x δ σ (l.trans l2)⟩
theorem ContS.afx {W : Wd} {Wx : WX} {O : Outs} {E : Ends} {S : Ss} {δ : Env} {σ : L2.St} (h : ContS W Wx O E S) (hE : EnvR W S.vw δ σ) : AfterX W S (fun x μ' => O.xc x δ μ') (WE Wx σ) :=
  fun S' x l R q => h.xc S' x δ σ l R (hE.mono l.1) q
def DS (W : Wd) (Wx : WX) (c : IR) : TS := fun E σ H => ∃ S δ O, S.H = H ∧ Rl W S ∧ EnvR W S.vw δ σ ∧ wpS c δ S.μ O ∧ ContS W Wx O E S
theorem afx_no {W : Wd} {S : Ss} {E : XK} : AfterX W S (fun _ _ => False) E := fun _ _ _ _ q => q.elim
section
variable {X : Cx} {T : List Addr} {cls : Nat → Addr} {Wx : WX}
theorem PE.weak {e : Expr} {t u : TE} (h : PE X e t) (k : ∀ σ H Q, u σ H Q → t σ H Q) : PE X e u := ⟨fun pins s σ H Q I hw => h.run pins s σ H Q I (k σ H Q hw)⟩
theorem PT.weak {e : Expr} {t u : TT} (h : PT X e t) (k : ∀ σ H Q, u σ H Q → t σ H Q) : PT X e u := ⟨fun pins s σ H Q I hw => h.run pins s σ H Q I (k σ H Q hw)⟩
theorem PW.weak {e : Expr} {t u : TT} (h : PW X e t) (k : ∀ σ H Q, u σ H Q → t σ H Q) : PW X e u := ⟨fun wh pins s σ H Q I hw => h.run wh pins s σ H Q I (k σ H Q hw)⟩
theorem PA.weak {e : List Expr} {t u : TA} (h : PA X e t) (k : ∀ σ H Q, u σ H Q → t σ H Q) : PA X e u := ⟨fun pos pins s σ H Q I hw => h.run pos pins s σ H Q I (k σ H Q hw)⟩
theorem PO.weak {e : Option Expr} {t u : TO} (h : PO X e t) (k : ∀ σ H Q, u σ H Q → t σ H Q) : PO X e u := ⟨fun pins s σ H Q I hw => h.run pins s σ H Q I (k σ H Q hw)⟩
theorem PI.weak {tg e : Expr} {t u : TI} (h : PI X tg e t) (k : ∀ σ H R, u σ H R → t σ H R) : PI X tg e u := ⟨fun pins s σ H Q I hw => h.run pins s σ H Q I (k σ H Q hw)⟩
theorem PG.weak {e : Expr} {t u : TG} (h : PG X e t) (k : ∀ v σ H Q, u v σ H Q → t v σ H Q) : PG X e u := ⟨fun pins s σ H v w Q I r hw => h.run pins s σ H v w Q I r (k v σ H Q hw)⟩
theorem PGs.weak {e : List Expr} {t u : TGs} (h : PGs X e t) (k : ∀ v σ H Q, u v σ H Q → t v σ H Q) : PGs X e u := ⟨fun pins s σ H v w Q I r hw => h.run pins s σ H v w Q I r (k v σ H Q hw)⟩
theorem PS.weak {e : Stmt} {t u : TS} (h : PS X e t) (k : ∀ D σ H, u D σ H → t D σ H) : PS X e u := ⟨fun pins s σ H D I hw => h.run pins s σ H D I (k D σ H hw)⟩
theorem PSs.weak {e : List Stmt} {t u : TS} (h : PSs X e t) (k : ∀ D σ H, u D σ H → t D σ H) : PSs X e u := ⟨fun pins s σ H D I hw => h.run pins s σ H D I (k D σ H hw)⟩
theorem PTs.weak {e : List Expr} {t u : TT} (h : PTs X e t) (k : ∀ σ H Q, u σ H Q → t σ H Q) : PTs X e u := ⟨fun pins s σ H Q I hw => h.run pins s σ H Q I (k σ H Q hw)⟩
variable {a b c : Expr} {ca cb cc : IR} {pos : Pos}
theorem d_var {i : Nat} {x : Str} (hN : X.N[i]? = some x) (hv : Vis X.env.scope x) (hd : (x == ("__debug__" : Str)) = false) (hcd : (x == ("__classdict__" : Str)) = false) : PE X (.Name x pos) (DE (wd X T cls) Wx (.var i)) :=
  PE.weak (pe_var hN hv hd hcd) fun σ H Q h => by
    obtain ⟨S, δ, QM, QX, rfl, R, hE, hw, hq, hx⟩ := h
    simp only [wpE] at hw
    split at hw
    · rename_i d e
      obtain ⟨v, ev, r⟩ := hE.2 i d e
      exact ⟨v, ev, hq S d v (.refl _) R r hw⟩
    · exact hw.elim
theorem d_con {e : Expr} {d : D} {v : V} (h : PE X e (tC v)) (hr : ∀ w, Rep X.K w d v) : PE X e (DE (wd X T cls) Wx (.con d)) :=
  PE.weak h fun σ H Q h => by
    obtain ⟨S, δ, QM, QX, rfl, R, hE, hw, hq, hx⟩ := h
    exact hq S d v (.refl _) R (hr _) hw
theorem d_glb {e : Expr} {x : Str} {d : D} {v : V} (h : PE X e (tC v)) (hr : ∀ w, Rep X.K w d v) : PE X e (DE (wd X T cls) Wx (.glb x d)) :=
  PE.weak h fun σ H Q h => by
    obtain ⟨S, δ, QM, QX, rfl, R, hE, hw, hq, hx⟩ := h
    exact hq S d v (.refl _) R (hr _) hw
theorem d_bty {e : Expr} {n : String} (h : PE X e (tC (.ty n))) : PE X e (DE (wd X T cls) Wx (.bty n)) :=
  PE.weak h fun σ H Q h => by
    obtain ⟨S, δ, QM, QX, rfl, R, hE, hw, hq, hx⟩ := h
    exact hq S (.ty n) _ (.refl _) R rfl hw
theorem d_bin {o : Operator} (ha : PE X a (DE (wd X T cls) Wx ca)) (hb : PE X b (DE (wd X T cls) Wx cb)) : PE X (.BinOp a o b pos) (DE (wd X T cls) Wx (.bin o ca cb)) :=
  PE.weak (pe_op (bin_ok (T := T) (cls := cls)) ha hb) fun σ H Q h => by
    obtain ⟨S, δ, QM, QX, rfl, R, hE, hw, hq, hx⟩ := h
    simp only [wpE] at hw
    exact ⟨S, δ, _, QX, rfl, R, hE, hw, fun S1 d1 v1 l1 R1 r1 w1 => ⟨S1, δ, _, QX, rfl, R1, hE.mono l1.1, w1, fun S2 d2 v2 l2 R2 r2 w2 => ⟨S2, d1, d2, QM, rfl, R2, r1.mono l2.1, r2, w2, hq.le (l1.trans l2)⟩, hx.le l1⟩, hx⟩
theorem d_neg (ha : PE X a (DE (wd X T cls) Wx ca)) : PE X (.UnaryOp .USub a pos) (DE (wd X T cls) Wx (.neg ca)) :=
  PE.weak (pe_un un_neg ha) fun σ H Q h => by
    obtain ⟨S, δ, QM, QX, rfl, R, hE, hw, hq, hx⟩ := h
    simp only [wpE] at hw
    refine ⟨S, δ, _, QX, rfl, R, hE, hw, fun S1 d1 v1 l1 R1 r1 w1 => ?_, hx⟩
    dsimp only at w1 ⊢
    split at w1
    · exact ⟨_, r1, hq S1 (.int _) _ l1 R1 rfl w1⟩
    · exact w1.elim
theorem d_cmp {o : CmpOp} {k : Nat} (hr : Room k X.A) (ha : PE X a (DE (wd X T cls) Wx ca)) (hb : PE X b (DE (wd X T cls) Wx cb)) (hm : behindInMarks o b = false) : PE X (.Compare a [o] [b] pos) (DE (wd X T cls) Wx (.cmp o ca cb)) :=
  PE.weak (pe_cmpR (cmp_ok (T := T) (cls := cls) (by have := hr.un; omega)) ha hb hm) fun σ H Q h => by
    obtain ⟨S, δ, QM, QX, rfl, R, hE, hw, hq, hx⟩ := h
    simp only [wpE] at hw
    exact ⟨S, δ, _, QX, rfl, R, hE, hw, fun S1 d1 v1 l1 R1 r1 w1 => ⟨S1, δ, _, QX, rfl, R1, hE.mono l1.1, w1, fun S2 d2 v2 l2 R2 r2 w2 => ⟨S2, d1, d2, _, rfl, R2, r1.mono l2.1, r2, w2, fun b q => hq S2 (.bl b) (.bl b) (l1.trans l2) R2 rfl q⟩, hx.le l1⟩, hx⟩
theorem t_cmp {o : CmpOp} {k : Nat} (hr : Room k X.A) (ha : PE X a (DE (wd X T cls) Wx ca)) (hb : PE X b (DE (wd X T cls) Wx cb)) (hm : behindInMarks o b = false) : PT X (.Compare a [o] [b] pos) (DT (wd X T cls) Wx (.cmp o ca cb)) :=
  PT.weak (pt_cmpR (cmp_ok (T := T) (cls := cls) (by have := hr.un; omega)) ha hb hm) fun σ H Q h => by
    obtain ⟨S, δ, QM, QX, rfl, R, hE, hw, hq, hx⟩ := h
    simp only [wpT] at hw
    exact ⟨S, δ, _, QX, rfl, R, hE, hw, fun S1 d1 v1 l1 R1 r1 w1 => ⟨S1, δ, _, QX, rfl, R1, hE.mono l1.1, w1, fun S2 d2 v2 l2 R2 r2 w2 => ⟨S2, d1, d2, _, rfl, R2, r1.mono l2.1, r2, w2, fun b q => ⟨b, rfl, hq S2 b (l1.trans l2) R2 q⟩⟩, hx.le l1⟩, hx⟩
theorem d_chn {o o' : CmpOp} {k : Nat} (hr : Room k X.A) (ha : PE X a (DE (wd X T cls) Wx ca)) (hb : PE X b (DE (wd X T cls) Wx cb)) (hc : PE X c (DE (wd X T cls) Wx cc)) (hm : lastMarks [o, o'] [b, c] = false) :
    PE X (.Compare a [o, o'] [b, c] pos) (DE (wd X T cls) Wx (.chn o o' ca cb cc)) :=
  PE.weak (pe_chain (cmp_ok (T := T) (cls := cls) (by have := hr.un; omega)) (cmp_ok (T := T) (cls := cls) (by have := hr.un; omega)) ha hb hc hm) fun σ H Q h => by
    obtain ⟨S, δ, QM, QX, rfl, R, hE, hw, hq, hx⟩ := h
    simp only [wpE] at hw
    refine ⟨S, δ, _, QX, rfl, R, hE, hw, fun S1 d1 v1 l1 R1 r1 w1 => ⟨S1, δ, _, QX, rfl, R1, hE.mono l1.1, w1, fun S2 d2 v2 l2 R2 r2 w2 => ⟨S2, d1, d2, _, rfl, R2, r1.mono l2.1, r2, w2, fun r q => ⟨r, rfl, ?_⟩⟩, hx.le l1⟩, hx⟩
    try dsimp only at q ⊢
    cases r with
    | true =>
      rw [if_pos rfl] at q ⊢
      exact ⟨S2, δ, _, QX, rfl, R2, hE.mono (l1.trans l2).1, q, fun S3 d3 v3 l3 R3 r3 w3 => ⟨S3, d2, d3, _, rfl, R3, r2.mono l3.1, r3, w3, fun b q => hq S3 (.bl b) (.bl b) ((l1.trans l2).trans l3) R3 rfl q⟩, hx.le (l1.trans l2)⟩
    | false =>
      rw [if_neg Bool.false_ne_true] at q ⊢
      exact hq S2 (.bl false) _ (l1.trans l2) R2 rfl q
theorem t_chn {o o' : CmpOp} {k : Nat} (hr : Room k X.A) (ha : PE X a (DE (wd X T cls) Wx ca)) (hb : PE X b (DE (wd X T cls) Wx cb)) (hc : PE X c (DE (wd X T cls) Wx cc)) (hm : lastMarks [o, o'] [b, c] = false) :
    PT X (.Compare a [o, o'] [b, c] pos) (DT (wd X T cls) Wx (.chn o o' ca cb cc)) :=
  PT.weak (pt_chain (cmp_ok (T := T) (cls := cls) (by have := hr.un; omega)) (cmp_ok (T := T) (cls := cls) (by have := hr.un; omega)) ha hb hc hm) fun σ H Q h => by
    obtain ⟨S, δ, QM, QX, rfl, R, hE, hw, hq, hx⟩ := h
    simp only [wpT] at hw
    refine ⟨S, δ, _, QX, rfl, R, hE, hw, fun S1 d1 v1 l1 R1 r1 w1 => ⟨S1, δ, _, QX, rfl, R1, hE.mono l1.1, w1, fun S2 d2 v2 l2 R2 r2 w2 => ⟨S2, d1, d2, _, rfl, R2, r1.mono l2.1, r2, w2, fun r q => ⟨r, rfl, ?_⟩⟩, hx.le l1⟩, hx⟩
    try dsimp only at q ⊢
    cases r with
    | true =>
      rw [if_pos rfl] at q ⊢
      exact ⟨S2, δ, _, QX, rfl, R2, hE.mono (l1.trans l2).1, q, fun S3 d3 v3 l3 R3 r3 w3 => ⟨S3, d2, d3, _, rfl, R3, r2.mono l3.1, r3, w3, fun b q => ⟨b, rfl, hq S3 b ((l1.trans l2).trans l3) R3 q⟩⟩, hx.le (l1.trans l2)⟩
    | false =>
      rw [if_neg Bool.false_ne_true] at q ⊢
      exact ⟨false, rfl, hq S2 false (l1.trans l2) R2 q⟩
theorem d_one {op : BoolOp} (ha : PE X a (DE (wd X T cls) Wx ca)) : PE X (.BoolOp op [a] pos) (DE (wd X T cls) Wx (.one ca)) :=
  PE.weak (pe_one ha) fun σ H Q h => by
    obtain ⟨S, δ, QM, QX, rfl, R, hE, hw, hq, hx⟩ := h
    simp only [wpE] at hw
    exact ⟨S, δ, QM, QX, rfl, R, hE, hw, hq, hx⟩
variable {es : List Expr}
theorem d_and (ha : PE X a (DE (wd X T cls) Wx ca)) (hb : PE X (.BoolOp .And (b :: es) pos) (DE (wd X T cls) Wx cb)) : PE X (.BoolOp .And (a :: b :: es) pos) (DE (wd X T cls) Wx (.andV ca cb)) :=
  PE.weak (pe_and ha hb) fun σ H Q h => by
    obtain ⟨S, δ, QM, QX, rfl, R, hE, hw, hq, hx⟩ := h
    simp only [wpE] at hw
    refine ⟨S, δ, _, QX, rfl, R, hE, hw, fun S1 d1 v1 l1 R1 r1 w1 => ?_, hx⟩
    dsimp only at w1 ⊢
    split at w1
    · rename_i k
      refine ⟨k, r1, ?_⟩
      cases k with
      | true =>
        rw [if_pos rfl] at w1 ⊢
        exact ⟨S1, δ, QM, QX, rfl, R1, hE.mono l1.1, w1, hq.le l1, hx.le l1⟩
      | false =>
        rw [if_neg Bool.false_ne_true] at w1 ⊢
        exact hq S1 (.bl false) _ l1 R1 rfl w1
    · exact w1.elim
theorem d_or (ha : PE X a (DE (wd X T cls) Wx ca)) (hb : PE X (.BoolOp .Or (b :: es) pos) (DE (wd X T cls) Wx cb)) : PE X (.BoolOp .Or (a :: b :: es) pos) (DE (wd X T cls) Wx (.orV ca cb)) :=
  PE.weak (pe_or ha hb) fun σ H Q h => by
    obtain ⟨S, δ, QM, QX, rfl, R, hE, hw, hq, hx⟩ := h
    simp only [wpE] at hw
    refine ⟨S, δ, _, QX, rfl, R, hE, hw, fun S1 d1 v1 l1 R1 r1 w1 => ?_, hx⟩
    dsimp only at w1 ⊢
    split at w1
    · rename_i k
      refine ⟨k, r1, ?_⟩
      cases k with
      | true =>
        rw [if_pos rfl] at w1 ⊢
        exact hq S1 (.bl true) _ l1 R1 rfl w1
      | false =>
        rw [if_neg Bool.false_ne_true] at w1 ⊢
        exact ⟨S1, δ, QM, QX, rfl, R1, hE.mono l1.1, w1, hq.le l1, hx.le l1⟩
    · exact w1.elim
theorem d_not (ha : PE X a (DE (wd X T cls) Wx ca)) : PE X (.UnaryOp .Not a pos) (DE (wd X T cls) Wx (.notV ca)) :=
  PE.weak (pe_not ha) fun σ H Q h => by
    obtain ⟨S, δ, QM, QX, rfl, R, hE, hw, hq, hx⟩ := h
    simp only [wpE] at hw
    refine ⟨S, δ, _, QX, rfl, R, hE, hw, fun S1 d1 v1 l1 R1 r1 w1 => ?_, hx⟩
    dsimp only at w1 ⊢
    split at w1
    · exact ⟨_, r1, hq S1 (.bl _) _ l1 R1 rfl w1⟩
    · exact w1.elim
theorem d_ife (hc : PT X c (DT (wd X T cls) Wx cc)) (ha : PE X a (DE (wd X T cls) Wx ca)) (hb : PE X b (DE (wd X T cls) Wx cb)) : PE X (.IfExp c a b pos) (DE (wd X T cls) Wx (.ife cc ca cb)) :=
  PE.weak (pe_ifExp hc ha hb) fun σ H Q h => by
    obtain ⟨S, δ, QM, QX, rfl, R, hE, hw, hq, hx⟩ := h
    simp only [wpE] at hw
    refine ⟨S, δ, _, QX, rfl, R, hE, hw, fun S1 k l1 R1 w1 => ?_, hx⟩
    dsimp only at w1 ⊢
    cases k with
    | true =>
      rw [if_pos rfl] at w1 ⊢
      exact ⟨S1, δ, QM, QX, rfl, R1, hE.mono l1.1, w1, hq.le l1, hx.le l1⟩
    | false =>
      rw [if_neg Bool.false_ne_true] at w1 ⊢
      exact ⟨S1, δ, QM, QX, rfl, R1, hE.mono l1.1, w1, hq.le l1, hx.le l1⟩
theorem d_ix {k : Nat} (hr : Room k X.A) (ha : PE X a (DE (wd X T cls) Wx ca)) (hb : PE X b (DE (wd X T cls) Wx cb)) (hs : PlainIx b) : PE X (.Subscript a b pos) (DE (wd X T cls) Wx (.ix ca cb)) :=
  PE.weak (pe_ix (ix_ok (T := T) (cls := cls) (by have := hr.un; omega)) ha hb hs) fun σ H Q h => by
    obtain ⟨S, δ, QM, QX, rfl, R, hE, hw, hq, hx⟩ := h
    simp only [wpE] at hw
    exact ⟨S, δ, _, QX, rfl, R, hE, hw, fun S1 d1 v1 l1 R1 r1 w1 => ⟨S1, δ, _, QX, rfl, R1, hE.mono l1.1, w1, fun S2 d2 v2 l2 R2 r2 w2 => ⟨S2, d1, d2, QM, rfl, R2, r1.mono l2.1, r2, w2, hq.le (l1.trans l2)⟩, hx.le l1⟩, hx⟩
theorem d_onone : PO X none (DO (wd X T cls) Wx .nop) :=
  PO.weak po_none fun σ H Q h => by
    obtain ⟨S, δ, QM, QX, rfl, R, hE, hw, hq, hx⟩ := h
    exact hq S none (.refl _) R hw
theorem d_osome (hn : ca ≠ .nop) (ha : PE X a (DE (wd X T cls) Wx ca)) : PO X (some a) (DO (wd X T cls) Wx ca) :=
  PO.weak (po_some ha) fun σ H Q h => by
    obtain ⟨S, δ, QM, QX, rfl, R, hE, hw, hq, hx⟩ := h
    have hw2 : wpE ca δ S.μ (fun d μ' => match d with | .int i => QM (some i) μ' | _ => False) QX := by
      unfold wpOpt at hw
      split at hw
      · exact absurd rfl hn
      · exact hw
    refine ⟨S, δ, _, QX, rfl, R, hE, hw2, fun S1 d1 v1 l1 R1 r1 w1 => ?_, hx⟩
    dsimp only at w1 ⊢
    split at w1
    · exact ⟨_, r1, hq S1 _ l1 R1 w1⟩
    · exact w1.elim
variable {lo hi : Option Expr} {cl ch : IR} {p2 : Pos}
theorem d_sl (ha : PE X a (DE (wd X T cls) Wx ca)) (hl : PO X lo (DO (wd X T cls) Wx cl)) (hh : PO X hi (DO (wd X T cls) Wx ch)) : PE X (.Subscript a (.Slice lo hi none p2) pos) (DE (wd X T cls) Wx (.sl ca cl ch)) :=
  PE.weak (pe_slice (sl_ok (T := T) (cls := cls)) ha hl hh) fun σ H Q h => by
    obtain ⟨S, δ, QM, QX, rfl, R, hE, hw, hq, hx⟩ := h
    simp only [wpE] at hw
    exact ⟨S, δ, _, QX, rfl, R, hE, hw, fun S1 d1 v1 l1 R1 r1 w1 => ⟨S1, δ, _, QX, rfl, R1, hE.mono l1.1, w1, fun S2 o2 l2 R2 w2 => ⟨S2, δ, _, QX, rfl, R2, hE.mono (l1.trans l2).1, w2, fun S3 o3 l3 R3 w3 =>
      ⟨S3, d1, QM, rfl, R3, r1.mono (l2.trans l3).1, w3, hq.le ((l1.trans l2).trans l3)⟩, hx.le (l1.trans l2)⟩, hx.le l1⟩, hx⟩
theorem d_anil : PA X [] (DA (wd X T cls) Wx .nil) :=
  PA.weak pa_nil fun σ H Q h => by
    obtain ⟨S, δ, QM, QX, rfl, R, hE, hw, hq, hx⟩ := h
    simp only [wpA] at hw
    exact hq S [] [] (.refl _) R rfl hw
theorem d_acons (ha : PE X a (DE (wd X T cls) Wx ca)) (hb : PA X es (DA (wd X T cls) Wx cb)) (hs : starEach (a :: es) X.env = (false, eval a X.env) :: starEach es X.env) : PA X (a :: es) (DA (wd X T cls) Wx (.cons ca cb)) :=
  PA.weak (pa_cons ha hb hs) fun σ H Q h => by
    obtain ⟨S, δ, QM, QX, rfl, R, hE, hw, hq, hx⟩ := h
    simp only [wpA] at hw
    exact ⟨S, δ, _, QX, rfl, R, hE, hw, fun S1 d1 v1 l1 R1 r1 w1 => ⟨S1, δ, _, QX, rfl, R1, hE.mono l1.1, w1, fun S2 ds vs l2 R2 r2 w2 => hq S2 (d1 :: ds) (v1 :: vs) (l1.trans l2) R2 ⟨v1, vs, rfl, r1.mono l2.1, r2⟩ w2, hx.le l1⟩, hx⟩
theorem d_tup {k : Nat} (h : PA X es (DA (wd X T cls) Wx ca)) : PE X (.Tuple es k pos) (DE (wd X T cls) Wx (.tupC ca)) :=
  PE.weak (pe_tup h) fun σ H Q h => by
    obtain ⟨S, δ, QM, QX, rfl, R, hE, hw, hq, hx⟩ := h
    simp only [wpE] at hw
    exact ⟨S, δ, _, QX, rfl, R, hE, hw, fun S1 ds vs l1 R1 r1 w1 => ⟨by rw [r1.length]; exact w1.1, fresh_tup R1 r1 w1.2 (hq.le l1)⟩, hx⟩
theorem d_lst (h : PA X es (DA (wd X T cls) Wx ca)) : PE X (.List es pos) (DE (wd X T cls) Wx (.lstC ca)) :=
  PE.weak (pe_lst h) fun σ H Q h => by
    obtain ⟨S, δ, QM, QX, rfl, R, hE, hw, hq, hx⟩ := h
    simp only [wpE] at hw
    exact ⟨S, δ, _, QX, rfl, R, hE, hw, fun S1 ds vs l1 R1 r1 w1 => ⟨by rw [r1.length]; exact w1.1, fresh_lst R1 r1 w1.2 (hq.le l1)⟩, hx⟩
theorem new_cell {W : Wd} {S : Ss} {p : Addr} {o : HO} {c : Cell} (R : Rl W S) (hp : S.H p = none) (n : CellOk W ⟨hid S, newρ S.ρ S.μ.next p, S.μ.next + 1⟩ (upd S.H p o) p c) :
    Ss.le S { S with ρ := newρ S.ρ S.μ.next p, μ := S.μ.new c, H := upd S.H p o } ∧ Rl W { S with ρ := newρ S.ρ S.μ.next p, μ := S.μ.new c, H := upd S.H p o } :=
  R.new hp (fun a ha _ => upd_ne ha) (fun a u h => by
    have h1 := hid_ex h
    rw [upd_ne (ne_of_none h1 hp)]
    exact h1) n
theorem vw_new {S : Ss} {p : Addr} (n : Nat) (hn : n = S.μ.next) : S.vw.le ⟨hid S, newρ S.ρ n p, n + 1⟩ := by
  subst hn
  exact ⟨Ext.refl _, fun k hk => newρ_ne (Nat.ne_of_lt hk), Nat.le_succ _⟩
theorem d_lstM (h : PA X es (DA (wd X T cls) Wx ca)) : PE X (.List es pos) (DE (wd X T cls) Wx (.lstM ca)) :=
  PE.weak (pe_lst h) fun σ H Q h => by
    obtain ⟨S, δ, QM, QX, rfl, R, hE, hw, hq, hx⟩ := h
    simp only [wpE] at hw
    refine ⟨S, δ, _, QX, rfl, R, hE, hw, fun S1 ds vs l1 R1 r1 w1 => ⟨by rw [r1.length]; exact w1.1, fun p hp => ?_⟩, hx⟩
    obtain ⟨l, R2⟩ := new_cell (c := .lst ds) (o := .lst vs) R1 hp ⟨vs, upd_same, r1.mono (vw_new _ rfl)⟩
    exact hq _ (.obj S1.μ.next) _ (l1.trans l) R2 ⟨Nat.lt_succ_self _, by show V.ref p = .ref (newρ S1.ρ S1.μ.next p S1.μ.next); rw [newρ_same]⟩ w1.2
theorem d_frz (ha : PE X a (DE (wd X T cls) Wx ca)) : PE X a (DE (wd X T cls) Wx (.frz ca)) :=
  PE.weak ha fun σ H Q h => by
    obtain ⟨S, δ, QM, QX, rfl, R, hE, hw, hq, hx⟩ := h
    simp only [wpE] at hw
    refine ⟨S, δ, _, QX, rfl, R, hE, hw, fun S1 d1 v1 l1 R1 r1 w1 => ?_, hx⟩
    dsimp only at w1 ⊢
    split at w1
    · rename_i k
      split at w1
      · rename_i ds e
        obtain ⟨xs, e1, r2⟩ := R1.ok _ _ e
        obtain ⟨l2, R2⟩ := R1.del (k := k)
        refine hq { S1 with μ := S1.μ.del k } (.lst ds) v1 (l1.trans l2) R2 ⟨S1.ρ k, xs, r1.2, hid_some.mpr ⟨e1, ?_⟩, r2.mono l2.1⟩ w1
        rintro (⟨j, d, h1, h2⟩ | ⟨o, h1⟩)
        · have h1 : (S1.μ.del k).cell j = some d := h1
          by_cases hj : j = k
          · rw [hj, Sto.del_same] at h1
            cases h1
          · rw [Sto.del_ne hj] at h1
            exact hj (R1.inj j k d _ h1 e h2)
        · exact (R1.prv _ o h1).2 k _ e rfl
      · exact w1.elim
    · exact w1.elim
theorem t_val (ha : PE X a (DE (wd X T cls) Wx ca)) (he : ∀ whole, isTrue a X.env whole = (do let v ← whole; standAt a.pos; holding [v] (truthy v))) : PT X a (DT (wd X T cls) Wx (.tV ca)) :=
  PT.weak (pt_truth ha he) fun σ H Q h => by
    obtain ⟨S, δ, QM, QX, rfl, R, hE, hw, hq, hx⟩ := h
    simp only [wpT] at hw
    refine ⟨S, δ, _, QX, rfl, R, hE, hw, fun S1 d1 v1 l1 R1 r1 w1 => ?_, hx⟩
    obtain ⟨k, hk, q⟩ := tru_rep R1 r1 w1
    exact ⟨k, hk, hq S1 k l1 R1 q⟩
theorem t_not (h : PT X a (DT (wd X T cls) Wx ca)) : PT X (.UnaryOp .Not a pos) (DT (wd X T cls) Wx (.tNot ca)) :=
  PT.weak (pt_not h) fun σ H Q h => by
    obtain ⟨S, δ, QM, QX, rfl, R, hE, hw, hq, hx⟩ := h
    simp only [wpT] at hw
    exact ⟨S, δ, _, QX, rfl, R, hE, hw, fun S1 k l1 R1 w1 => hq S1 (!k) l1 R1 w1, hx⟩
theorem t_and1 (h : PT X a (DT (wd X T cls) Wx ca)) : PW X (.BoolOp .And [a] pos) (DT (wd X T cls) Wx (.tOne ca)) :=
  PW.weak (pw_and1 h) fun σ H Q h => by
    obtain ⟨S, δ, QM, QX, rfl, R, hE, hw, hq, hx⟩ := h
    simp only [wpT] at hw
    exact ⟨S, δ, QM, QX, rfl, R, hE, hw, hq, hx⟩
theorem t_or1 (h : PT X a (DT (wd X T cls) Wx ca)) : PW X (.BoolOp .Or [a] pos) (DT (wd X T cls) Wx (.tOne ca)) :=
  PW.weak (pw_or1 h) fun σ H Q h => by
    obtain ⟨S, δ, QM, QX, rfl, R, hE, hw, hq, hx⟩ := h
    simp only [wpT] at hw
    exact ⟨S, δ, QM, QX, rfl, R, hE, hw, hq, hx⟩
theorem t_and (h : PT X a (DT (wd X T cls) Wx ca)) (hb : PW X (.BoolOp .And (b :: es) pos) (DT (wd X T cls) Wx cb)) : PW X (.BoolOp .And (a :: b :: es) pos) (DT (wd X T cls) Wx (.tAnd ca cb)) :=
  PW.weak (pw_and h hb) fun σ H Q h => by
    obtain ⟨S, δ, QM, QX, rfl, R, hE, hw, hq, hx⟩ := h
    simp only [wpT] at hw
    refine ⟨S, δ, _, QX, rfl, R, hE, hw, fun S1 k l1 R1 w1 => ?_, hx⟩
    dsimp only at w1 ⊢
    cases k with
    | true =>
      rw [if_pos rfl] at w1 ⊢
      exact ⟨S1, δ, QM, QX, rfl, R1, hE.mono l1.1, w1, hq.le l1, hx.le l1⟩
    | false =>
      rw [if_neg Bool.false_ne_true] at w1 ⊢
      exact hq S1 false l1 R1 w1
theorem t_or (h : PT X a (DT (wd X T cls) Wx ca)) (hb : PW X (.BoolOp .Or (b :: es) pos) (DT (wd X T cls) Wx cb)) : PW X (.BoolOp .Or (a :: b :: es) pos) (DT (wd X T cls) Wx (.tOr ca cb)) :=
  PW.weak (pw_or h hb) fun σ H Q h => by
    obtain ⟨S, δ, QM, QX, rfl, R, hE, hw, hq, hx⟩ := h
    simp only [wpT] at hw
    refine ⟨S, δ, _, QX, rfl, R, hE, hw, fun S1 k l1 R1 w1 => ?_, hx⟩
    dsimp only at w1 ⊢
    cases k with
    | true =>
      rw [if_pos rfl] at w1 ⊢
      exact hq S1 true l1 R1 w1
    | false =>
      rw [if_neg Bool.false_ne_true] at w1 ⊢
      exact ⟨S1, δ, QM, QX, rfl, R1, hE.mono l1.1, w1, hq.le l1, hx.le l1⟩
end
end M
end
section
set_option autoImplicit true
namespace M
open PySem PySem.Spec PyProof.Rows L2
section
variable {X : Cx} {T : List Addr} {cls : Nat → Addr} {Wx : WX}
variable {a b c : Expr} {ca cb cc : IR} {pos : Pos} {es : List Expr} {tg : Expr}
theorem iter_list {W : Wd} {p : Addr} {ds : List D} {gd : Sto → Prop} {S0 : Ss} (h : ∀ S, S0.vw.le S.vw → Rl W S → gd S.μ → ∃ xs, SqL W.K S.H p xs ∧ Reps W.K S.vw ds xs) : IterD W (Itl W.K p) ds gd S0 := fun S l R g => by
  obtain ⟨xs, hs, hr⟩ := h S l R g
  refine ⟨⟨xs, hs, Nat.le_of_eq hr.length⟩, fun i hi => ⟨⟨xs, xs[i]'(by rw [hr.length]; exact hi), hs, List.getElem?_eq_getElem _⟩, fun x H' y => ?_⟩⟩
  obtain ⟨e, y⟩ := y
  obtain ⟨d, ed, rd⟩ := hr.get' (y xs hs)
  exact ⟨S, d, .refl _, R, e.symm, rfl, ed, rd⟩
theorem iter_tup {W : Wd} {p : Addr} {ds : List D} {gd : Sto → Prop} {S0 : Ss} (h : ∀ S, S0.vw.le S.vw → Rl W S → gd S.μ → ∃ xs, SqT W.K S.H p xs ∧ Reps W.K S.vw ds xs) : IterD W (Itt W.K p) ds gd S0 := fun S l R g => by
  obtain ⟨xs, hs, hr⟩ := h S l R g
  refine ⟨⟨xs, hs, Nat.le_of_eq hr.length⟩, fun i hi => ⟨⟨xs, xs[i]'(by rw [hr.length]; exact hi), hs, List.getElem?_eq_getElem _⟩, fun x H' y => ?_⟩⟩
  obtain ⟨e, y⟩ := y
  obtain ⟨d, ed, rd⟩ := hr.get' (y xs hs)
  exact ⟨S, d, .refl _, R, e.symm, rfl, ed, rd⟩
theorem intsD_length (lo : Int) (n : Nat) : (intsD lo n).length = n := by unfold intsD; rw [List.length_map, List.length_range]
theorem intsD_get {lo : Int} {n i : Nat} (h : i < n) : (intsD lo n)[i]? = some (.int (lo + i)) := by
  unfold intsD
  rw [List.getElem?_map, List.getElem?_range h]
  rfl
theorem iter_rng {W : Wd} {lo : Int} {n : Nat} {gd : Sto → Prop} {S0 : Ss} : IterD W (Itr lo n) (intsD lo n) gd S0 := fun S l R g => by
  rw [intsD_length]
  refine ⟨Nat.le_refl n, fun i hi => ⟨hi, fun x H' y => ?_⟩⟩
  obtain ⟨e, y⟩ := y
  exact ⟨S, .int (lo + i), .refl _, R, e.symm, rfl, intsD_get hi, y⟩
theorem iter_str {W : Wd} {z : Str} {gd : Sto → Prop} {S0 : Ss} : IterD W (Its z) (z.cps.toList.map fun c => D.str ⟨#[c]⟩) gd S0 := fun S l R g => by
  rw [List.length_map]
  refine ⟨?_, fun i hi => ⟨?_, fun x H' y => ?_⟩⟩
  · show z.cps.size ≤ z.cps.toList.length
    rw [Array.length_toList]
    exact Nat.le_refl _
  · show i < z.cps.size
    rw [Array.length_toList] at hi
    exact hi
  · obtain ⟨e, c, hc, y⟩ := y
    refine ⟨S, .str ⟨#[c]⟩, .refl _, R, e.symm, rfl, ?_, y⟩
    rw [List.getElem?_map, Array.getElem?_toList, hc]
    rfl
def iAny (K : PySem.W.Frag) (tl : TE) : TI := fun σ H R => tl σ H fun x H1 =>
  (∃ a, x = .ref a ∧ (∃ xs, SqL K H1 a xs) ∧ R (Itl K a) H1) ∨ (∃ a, x = .ref a ∧ (∃ xs, SqT K H1 a xs) ∧ R (Itt K a) H1) ∨ ∃ z, x = .str z ∧ R (Its z) H1
theorem pi_any {l : Expr} {tl : TE} (hl : PE X l tl) : PI X tg l (iAny X.K tl) := by
  refine ⟨fun pins s σ H R I h => ?_⟩
  refine thn (hl.run pins s σ H _ I h) fun v s1 ⟨x, H1, I1, r1, q1⟩ => ?_
  have lt : ∀ b ∈ [s1.heap.objs.size], FpOk X pins H1 b := fun b hb => by
    have e : b = s1.heap.objs.size := by simpa using hb
    subst e
    exact I1.fpOk (Nat.le_refl _) (I1.hok.fresh (Nat.le_refl _))
  rcases q1 with ⟨a, e, ⟨xs, hq⟩, q⟩ | ⟨a, e, ⟨xs, hq⟩, q⟩ | ⟨z, e, q⟩
  · subst e
    cases r1
    obtain ⟨its, rv, p, hz⟩ := I1.list hq
    refine wpAny_pyIter_list p.isList ?_
    exact ⟨s1.heap.objs.size, [s1.heap.objs.size], _, _, H1, rfl, I1.kept (t' := s1.toks) fun b o e => Heap.get?_push_of_some _ e, turn_list a _, ⟨_, Heap.get?_push_size _ rfl, rfl, rfl⟩, lt, q⟩
  · subst e
    cases r1
    obtain ⟨its, rv, p, hz⟩ := I1.tuple hq
    refine wpAny_pyIter_tuple (show s1.heap.IsTuple a its.toArray from p) ?_
    exact ⟨s1.heap.objs.size, [s1.heap.objs.size], _, _, H1, rfl, I1.kept (t' := s1.toks) fun b o e => Heap.get?_push_of_some _ e, turn_tuple a _, ⟨_, Heap.get?_push_size _ rfl, rfl, rfl⟩, lt, q⟩
  · subst e
    obtain ⟨t, rfl⟩ := r1
    cases ha : z.cps.all (· < 128)
    · exact wpAny_pyIter_wide ha (pi_one (tk := s1.toks) I1 _ (turn_str _ z t "str_iterator" (.inr rfl)) ⟨_, Heap.get?_push_size _ rfl, rfl, rfl⟩ q)
    · exact wpAny_pyIter_ascii ha (pi_one (tk := s1.toks) I1 _ (turn_str _ z t "str_ascii_iterator" (.inl rfl)) ⟨_, Heap.get?_push_size _ rfl, rfl, rfl⟩ q)
theorem i_val (ha : PE X a (DE (wd X T cls) Wx ca)) : PI X tg a (DI (wd X T cls) Wx (.itV ca)) :=
  PI.weak (pi_any ha) fun σ H KR h => by
    obtain ⟨S, δ, KI, QX, rfl, R, hE, hw, hq, hx⟩ := h
    simp only [wpI] at hw
    refine ⟨S, δ, _, QX, rfl, R, hE, hw, fun S1 d1 v1 l1 R1 r1 w1 => ?_, hx⟩
    dsimp only at w1 ⊢
    unfold itD at w1
    split at w1
    · obtain ⟨p, xs, e, s, rr⟩ := r1
      exact .inr (.inl ⟨p, e, ⟨xs, hid_ext.sqt s⟩, hq S1 _ _ _ l1 R1 (iter_tup fun S2 l2 R2 _ => ⟨xs, hid_ext.sqt (l2.1.sqt s), rr.mono l2⟩) w1⟩)
    · obtain ⟨p, xs, e, s, rr⟩ := r1
      exact .inl ⟨p, e, ⟨xs, SqL.of (hid_ex s)⟩, hq S1 _ _ _ l1 R1 (iter_list fun S2 l2 R2 _ => ⟨xs, SqL.of (hid_ex (l2.1.at s fun _ z => by cases z)), rr.mono l2⟩) w1⟩
    · obtain ⟨p, xs, e, s, rr⟩ := r1
      exact .inl ⟨p, e, ⟨xs, hid_ext.sql s⟩, hq S1 _ _ _ l1 R1 (iter_list fun S2 l2 R2 _ => ⟨xs, hid_ext.sql (l2.1.sql s), rr.mono l2⟩) w1⟩
    · exact .inr (.inr ⟨_, r1, hq S1 _ _ _ l1 R1 iter_str w1⟩)
    · rename_i k
      split at w1
      · rename_i ds e
        obtain ⟨xs, e1, rr⟩ := R1.ok _ _ e
        refine .inl ⟨S1.ρ k, r1.2, ⟨xs, SqL.of e1⟩, hq S1 _ _ _ l1 R1 (iter_list fun S2 l2 R2 g => ?_) w1⟩
        obtain ⟨ys, e2, r2⟩ := R2.ok _ _ g
        refine ⟨ys, SqL.of ?_, r2⟩
        have := l2.2.1 k r1.1
        rw [show S2.ρ k = S1.ρ k from this] at e2
        exact e2
      · exact w1.elim
    · exact w1.elim
theorem i_rng1 {p : Pos} (hg : Gl X "range") (hm : X.mg "range" = none) (ha : PE X a (DE (wd X T cls) Wx ca)) (hs : starEach [a] X.env = [(false, eval a X.env)]) :
    PI X tg (.Call (.Name "range" p) [a] [] pos) (DI (wd X T cls) Wx (.itR1 ca)) :=
  PI.weak (pi_range1 hg hm (pa_cons ha pa_nil hs) hs) fun σ H KR h => by
    obtain ⟨S, δ, KI, QX, rfl, R, hE, hw, hq, hx⟩ := h
    simp only [wpI] at hw
    refine ⟨S, δ, _, QX, rfl, R, hE, hw, fun S1 d1 v1 l1 R1 r1 w1 => ?_, hx⟩
    dsimp only at w1 ⊢
    split at w1
    · rename_i n
      exact ⟨n, by rw [show v1 = _ from r1], w1.1, w1.2.1, hq S1 _ _ _ l1 R1 iter_rng w1.2.2⟩
    · exact w1.elim
theorem i_rng2 {p : Pos} (hg : Gl X "range") (hm : X.mg "range" = none) (ha : PE X a (DE (wd X T cls) Wx ca)) (hb : PE X b (DE (wd X T cls) Wx cb)) (hs : starEach [a, b] X.env = [(false, eval a X.env), (false, eval b X.env)]) (hs2 : starEach [b] X.env = [(false, eval b X.env)]) :
    PI X tg (.Call (.Name "range" p) [a, b] [] pos) (DI (wd X T cls) Wx (.itR2 ca cb)) :=
  PI.weak (pi_range2 hg hm (pa_cons ha (pa_cons hb pa_nil hs2) (by rw [hs, hs2])) hs hs2) fun σ H KR h => by
    obtain ⟨S, δ, KI, QX, rfl, R, hE, hw, hq, hx⟩ := h
    simp only [wpI] at hw
    refine ⟨S, δ, _, QX, rfl, R, hE, hw, fun S1 d1 v1 l1 R1 r1 w1 => ⟨S1, δ, _, QX, rfl, R1, hE.mono l1.1, w1, fun S2 d2 v2 l2 R2 r2 w2 => ?_, hx.le l1⟩, hx⟩
    dsimp only at w2 ⊢
    split at w2
    · rename_i i j
      have e1 : v1 = .int i := r1
      have e2 : v2 = .int j := r2
      subst e1 e2
      exact ⟨i, j, rfl, w2.1, hq S2 _ _ _ (l1.trans l2) R2 iter_rng w2.2⟩
    · exact w2.elim
theorem g_name {i : Nat} {x : Str} (hN : X.N.Nodup) (hi : X.N[i]? = some x) (hx : Loc X.env.scope x) (hf : X.fn x = true ∨ X.env.scope.names.lookup x = some .local) : PG X (.Name x pos) (DG (wd X T cls) (.gN i)) :=
  PG.weak (pg_name hN hi hx hf) fun v σ H Q h => by
    obtain ⟨S, δ, d, QG, rfl, R, hE, r, hw, hq⟩ := h
    simp only [wpG] at hw
    refine hq S _ _ (.refl _) R (hE.set r) ⟨List.length_set .., fun j hj => ?_⟩ hw
    exact List.getElem?_set_ne (by simpa [slotsG] using fun z => hj (by simp [slotsG, z]))
theorem gs_nil : PGs X [] (DGs (wd X T cls) .nil) :=
  PGs.weak pgs_nil fun v σ H Q h => by
    obtain ⟨S, δ, ds, QG, rfl, R, hE, r, hw, hq⟩ := h
    simp only [wpGs] at hw
    obtain ⟨rfl, hw⟩ := hw
    exact ⟨r, hq S δ σ (.refl _) R hE ⟨rfl, fun _ _ => rfl⟩ hw⟩
theorem gs_cons {cg cr : IR} (h1 : PG X a (DG (wd X T cls) cg)) (h2 : PGs X es (DGs (wd X T cls) cr)) (hs : (assignEach (a :: es) X.env).map (·.2) = assign a X.env :: (assignEach es X.env).map (·.2)) : PGs X (a :: es) (DGs (wd X T cls) (.cons cg cr)) :=
  PGs.weak (pgs_cons h1 h2 hs) fun v σ H Q h => by
    obtain ⟨S, δ, ds, QG, rfl, R, hE, r, hw, hq⟩ := h
    simp only [wpGs] at hw
    split at hw
    · rename_i d ds
      obtain ⟨x, xr, rfl, rx, rr⟩ := r
      refine ⟨x, xr, rfl, S, δ, d, _, rfl, R, hE, rx, hw, fun S1 δ1 σ1 l1 R1 E1 a1 w1 => ⟨S1, δ1, ds, QG, rfl, R1, E1, rr.mono l1.1, w1, fun S2 δ2 σ2 l2 R2 E2 a2 w2 => hq S2 δ2 σ2 (l1.trans l2) R2 E2 ⟨a2.1.trans a1.1, fun j hj => ?_⟩ w2⟩⟩
      simp only [slotsG, List.mem_append, not_or] at hj
      exact (a2.2 j hj.2).trans (a1.2 j hj.1)
    · exact hw.elim
theorem pg_or {e : Expr} {g1 g2 : TG} (h1 : PG X e g1) (h2 : PG X e g2) : PG X e (fun v σ H Q => g1 v σ H Q ∨ g2 v σ H Q) := by
  refine ⟨fun pins s σ H v u Q I r hw => ?_⟩
  rcases hw with hw | hw
  · exact h1.run pins s σ H v u Q I r hw
  · exact h2.run pins s σ H v u Q I r hw
theorem g_tup {k n : Nat} {cg : IR} (hc : X.calm = true) (h : PGs X es (DGs (wd X T cls) cg)) (hn : (assignEach es X.env).length = n) (hst : (assignEach es X.env).findIdx? (·.1) = none) : PG X (.Tuple es k pos) (DG (wd X T cls) (.gT n cg)) :=
  PG.weak (pg_or (pg_tup hc h hn hst) (pg_unl hc h hn hst)) fun v σ H Q h => by
    obtain ⟨S, δ, d, QG, rfl, R, hE, r, hw, hq⟩ := h
    simp only [wpG] at hw
    split at hw
    · rename_i ds e
      obtain ⟨p, xs, rfl, g, rr⟩ := asSeq_rep R r e
      rcases g with g | g
      · exact .inr ⟨p, xs, rfl, g, by rw [rr.length]; exact hw.1, S, δ, ds, QG, rfl, R, hE, rr, hw.2, fun S1 δ1 σ1 l1 R1 E1 a1 w1 => hq S1 δ1 σ1 l1 R1 E1 a1 w1⟩
      · exact .inl ⟨p, xs, rfl, g, by rw [rr.length]; exact hw.1, S, δ, ds, QG, rfl, R, hE, rr, hw.2, fun S1 δ1 σ1 l1 R1 E1 a1 w1 => hq S1 δ1 σ1 l1 R1 E1 a1 w1⟩
    · exact hw.elim
theorem set_or {r q : TSet} (h : PSet X r) (g : PSet X q) : PSet X (fun o i v H Q => r o i v H Q ∨ q o i v H Q) := by
  intro pins s σ H o i v ov iv u Q I ro ri rv hh
  rcases hh with hh | hh
  · exact h pins s σ H o i v ov iv u Q I ro ri rv hh
  · exact g pins s σ H o i v ov iv u Q I ro ri rv hh
theorem g_sub {k : Nat} (hr : Room k X.A) (ha : PE X a (DE (wd X T cls) Wx ca)) (hb : PE X b (DE (wd X T cls) Wx cb)) (hs : ∀ v, assign (.Subscript a b pos) X.env v = (do
      let ov ← holding [v] (eval a X.env)
      let iv ← holding [v, ov] (eval b X.env)
      standAt pos
      holding [v, ov, iv] (setItem ov iv v)
      release [v, ov, iv] [])) : PG X (.Subscript a b pos) (DG (wd X T cls) (.gSub ca cb)) :=
  PG.weak (pg_sub ha hb (set_or set_list (set_dict (by have := hr.un; omega))) hs) fun v σ H Q h => by
    obtain ⟨S, δ, d, QG, rfl, R, hE, r, hw, hq⟩ := h
    simp only [wpG] at hw
    refine ⟨S, δ, _, _, rfl, R, hE, hw, fun S1 d1 v1 l1 R1 r1 w1 => ⟨S1, δ, _, _, rfl, R1, hE.mono l1.1, w1, fun S2 d2 v2 l2 R2 r2 w2 => ?_, afx_no⟩, afx_no⟩
    dsimp only at w2 ⊢
    split at w2
    · rename_i k j
      split at w2
      · rename_i ds e
        split at w2
        · rename_i n en
          obtain ⟨xs, e1, rr⟩ := R2.ok _ _ e
          have rk := r1.mono l2.1
          have ej : v2 = .int j := r2
          subst ej
          obtain ⟨l3, R3⟩ := R2.put (k := k) (c' := .lst (ds.set n d)) (o := .lst (xs.set n v)) e ⟨_, upd_same, Reps.set n rr (r.mono (l1.trans l2).1)⟩
          exact .inl ⟨S2.ρ k, xs, j, n, rk.2, rfl, e1, by rw [rr.length]; exact en, hq _ _ σ ((l1.trans l2).trans l3) R3 (hE.mono ((l1.trans l2).trans l3).1) ⟨rfl, fun _ _ => rfl⟩ w2⟩
        · exact w2.elim
      · exact w2.elim
    · rename_i k y
      split at w2
      · rename_i kvs key e e4
        obtain ⟨es, e1, rr⟩ := R2.ok _ _ e
        have rk := r1.mono l2.1
        have := key_rep e4 r2
        subst this
        obtain ⟨l3, R3⟩ := R2.put (k := k) (c' := .dct (putD kvs key d)) (o := .dK (putK es key v)) e ⟨_, upd_same, RepP.put rr (r.mono (l1.trans l2).1)⟩
        exact .inr ⟨S2.ρ k, _, rk.2, DPut.k e1 (by rw [rr.len]; exact w2.1), hq _ _ σ ((l1.trans l2).trans l3) R3 (hE.mono ((l1.trans l2).trans l3).1) ⟨rfl, fun _ _ => rfl⟩ w2.2⟩
      · exact w2.elim
    · exact w2.elim
theorem lckD_eq {δ : Env} {i k : Nat} {μ : Sto} {kvs : List (Key × D)} (h : lckD δ i μ = some (k, kvs)) : δ[i]? = some (some (.obj k)) ∧ μ.cell k = some (.dct kvs) := by
  unfold lckD at h
  split at h
  · rename_i j e
    split at h
    · rename_i c hc
      cases h
      exact ⟨e, hc⟩
    · cases h
  · cases h
theorem Rl.lock {W : Wd} {S : Ss} {k : Nat} {kvs : List (Key × D)} (R : Rl W S) (h : S.μ.cell k = some (.dct kvs)) : ∃ es, S.H (S.ρ k) = some (.dK es) ∧ ∀ od, Ss.le S { S with μ := S.μ.put k (.lck kvs od es), H := upd S.H (S.ρ k) (.frz od (.dK es)) } ∧ Rl W { S with μ := S.μ.put k (.lck kvs od es), H := upd S.H (S.ρ k) (.frz od (.dK es)) } := by
  obtain ⟨es, e1, r⟩ := R.ok _ _ h
  exact ⟨es, e1, fun od => R.put (c' := .lck kvs od es) (o := .frz od (.dK es)) h ⟨upd_same, r⟩⟩
theorem Rl.unlock {W : Wd} {S : Ss} {k : Nat} {kvs : List (Key × D)} {od : Obj} {es : List (Key × V)} (R : Rl W S) (h : S.μ.cell k = some (.lck kvs od es)) : S.H (S.ρ k) = some (.frz od (.dK es)) ∧ Ss.le S { S with μ := S.μ.put k (.dct kvs), H := upd S.H (S.ρ k) (.dK es) } ∧ Rl W { S with μ := S.μ.put k (.dct kvs), H := upd S.H (S.ρ k) (.dK es) } := by
  obtain ⟨e1, r⟩ := R.ok _ _ h
  have := R.put (c' := .dct kvs) (o := .dK es) h ⟨es, upd_same, r⟩
  exact ⟨e1, this.1, this.2⟩
theorem d_lkE {e : Expr} {i : Nat} {ce : IR} (he : PE X e (DE (wd X T cls) Wx ce)) : PE X e (DE (wd X T cls) Wx (.lkE i ce)) :=
  PE.weak (pe_lock he) fun σ H Q h => by
    obtain ⟨S, δ, QM, QX, rfl, R, hE, hw, hq, hx⟩ := h
    simp only [wpE] at hw
    split at hw
    · rename_i k kvs e1
      obtain ⟨e2, e3⟩ := lckD_eq e1
      have hk := R.lt _ _ e3
      obtain ⟨es, e4, lk⟩ := R.lock e3
      refine ⟨S.ρ k, .dK es, e4, trivial, fun od => ?_⟩
      obtain ⟨l1, R1⟩ := lk od
      refine ⟨_, δ, _, _, rfl, R1, hE.mono l1.1, hw od es, fun S2 d v l2 R2 r2 w2 => ?_, afx_no⟩
      have eρ : S2.ρ k = S.ρ k := (l1.trans l2).1.2.1 k hk
      obtain ⟨e5, l3, R3⟩ := R2.unlock w2.1
      rw [eρ] at e5
      refine ⟨e5, ?_⟩
      have := hq _ d v ((l1.trans l2).trans l3) R3 (r2.mono l3.1) w2.2
      dsimp only at this
      rw [eρ] at this
      exact this
    · exact hw.elim
theorem s_lkS {st : Stmt} {i : Nat} {cs : IR} (hs : PS X st (DS (wd X T cls) Wx cs)) : PS X st (DS (wd X T cls) Wx (.lkS i cs)) :=
  PS.weak (ps_lock hs) fun E σ H h => by
    obtain ⟨S, δ, O, rfl, R, hE, hw, C⟩ := h
    simp only [wpS] at hw
    split at hw
    · rename_i k kvs e1
      obtain ⟨e2, e3⟩ := lckD_eq e1
      have hk := R.lt _ _ e3
      obtain ⟨es, e4, lk⟩ := R.lock e3
      refine ⟨S.ρ k, .dK es, e4, trivial, fun od => ?_⟩
      obtain ⟨l1, R1⟩ := lk od
      have back : ∀ {S2 : Ss}, Ss.le { S with μ := S.μ.put k (.lck kvs od es), H := upd S.H (S.ρ k) (.frz od (.dK es)) } S2 → Rl (wd X T cls) S2 → S2.μ.cell k = some (.lck kvs od es) → S2.H (S.ρ k) = some (.frz od (.dK es)) ∧ S.le { S2 with μ := S2.μ.put k (.dct kvs), H := upd S2.H (S.ρ k) (.dK es) } ∧ S2.le { S2 with μ := S2.μ.put k (.dct kvs), H := upd S2.H (S.ρ k) (.dK es) } ∧ Rl (wd X T cls) { S2 with μ := S2.μ.put k (.dct kvs), H := upd S2.H (S.ρ k) (.dK es) } := fun {S2} l2 R2 hc => by
        have eρ : S2.ρ k = S.ρ k := (l1.trans l2).1.2.1 k hk
        obtain ⟨e5, l3, R3⟩ := R2.unlock hc
        rw [eρ] at e5 l3 R3
        exact ⟨e5, (l1.trans l2).trans l3, l3, R3⟩
      refine ⟨_, δ, _, rfl, R1, hE.mono l1.1, hw od es, ⟨fun S2 δ2 σ2 l2 R2 E2 w2 => ?_, fun S2 d v l2 R2 r2 w2 => ?_, fun S2 δ2 σ2 l2 R2 E2 w2 => ?_, fun S2 δ2 σ2 l2 R2 E2 w2 => ?_, fun S2 x δ2 σ2 l2 R2 E2 w2 => w2.elim⟩⟩
      · obtain ⟨b1, b2, b3, b4⟩ := back l2 R2 w2.1
        exact ⟨b1, C.nx _ δ2 σ2 b2 b4 (E2.mono b3.1) w2.2⟩
      · obtain ⟨b1, b2, b3, b4⟩ := back l2 R2 w2.1
        exact ⟨b1, C.rt _ d v b2 b4 (r2.mono b3.1) w2.2⟩
      · obtain ⟨b1, b2, b3, b4⟩ := back l2 R2 w2.1
        exact ⟨b1, C.bk _ δ2 σ2 b2 b4 (E2.mono b3.1) w2.2⟩
      · obtain ⟨b1, b2, b3, b4⟩ := back l2 R2 w2.1
        exact ⟨b1, C.ct _ δ2 σ2 b2 b4 (E2.mono b3.1) w2.2⟩
    · exact hw.elim
theorem keyD_rep {K : PySem.W.Frag} {w : Vw} (k : Key) : Rep K w (keyD k) (kV k) := by
  cases k <;> rfl
theorem repP_get {κ : Type} {K : PySem.W.Frag} {w : Vw} : ∀ {fs : List (κ × D)} {es : List (κ × V)} {i : Nat} {k : κ} {v : V}, RepP K w fs es → es[i]? = some (k, v) → ∃ d, fs[i]? = some (k, d) ∧ Rep K w d v
  | [], es, i, k, v, h, e => by
    have h : es = [] := h
    subst h
    simp at e
  | (g, x) :: fs, es, 0, k, v, h, e => by
    obtain ⟨y, t, rfl, h1, h2⟩ := h
    simp only [List.getElem?_cons_zero, Option.some.injEq, Prod.mk.injEq] at e
    obtain ⟨rfl, rfl⟩ := e
    exact ⟨x, rfl, h1⟩
  | (g, x) :: fs, es, i + 1, k, v, h, e => by
    obtain ⟨y, t, rfl, h1, h2⟩ := h
    obtain ⟨d, h3, h4⟩ := repP_get (i := i) (k := k) (v := v) h2 (by simpa using e)
    exact ⟨d, by simpa using h3, h4⟩
theorem iter_items {W : Wd} {k : Nat} {kvs : List (Key × D)} {o : Obj} {es : List (Key × V)} {S0 : Ss} (hk : k < S0.μ.next) : IterD W (Iti (S0.ρ k) o es) (kvs.map fun kv => .tup [keyD kv.1, kv.2]) (fun μ' => μ'.cell k = some (.lck kvs o es)) S0 := fun S l R g => by
  obtain ⟨e1, r⟩ := R.ok _ _ g
  have eρ : S.ρ k = S0.ρ k := l.2.1 k hk
  rw [eρ] at e1
  rw [List.length_map]
  have hl : es.length = kvs.length := r.len
  refine ⟨⟨e1, Nat.le_of_eq hl⟩, fun i hi => ⟨⟨e1, by rw [hl]; exact hi⟩, fun x H' y => ?_⟩⟩
  obtain ⟨p, key, v, hkv, rfl, hp, rfl⟩ := y
  obtain ⟨d, hd, rd⟩ := repP_get r hkv
  obtain ⟨l2, R2, g2⟩ := R.fresh (o := .tup [kV key, v]) hp
  refine ⟨_, .tup [keyD key, d], l2, R2, rfl, rfl, by rw [List.getElem?_map, hd]; rfl, ⟨p, [kV key, v], rfl, SqT.of g2, ?_⟩⟩
  exact ⟨_, _, rfl, keyD_rep key, _, _, rfl, rd.mono l2.1, rfl⟩
theorem i_itm {elts : List Expr} {kk : Nat} {tpos apos pos : Pos} (ha : PE X a (DE (wd X T cls) Wx ca)) (hb : attributeBase a "items" X.env (eval a X.env) = eval a X.env) (hl : (apos.endLine == pos.line) = true) : PI X (.Tuple elts kk tpos) (.Call (.Attribute a "items" apos) [] [] pos) (DI (wd X T cls) Wx (.itm ca)) :=
  PI.weak (pi_items ha hb hl) fun σ H KR h => by
    obtain ⟨S, δ, KI, QX, rfl, R, hE, hw, hq, hx⟩ := h
    simp only [wpI] at hw
    refine ⟨S, δ, _, QX, rfl, R, hE, hw, fun S1 d1 v1 l1 R1 r1 w1 => ?_, hx⟩
    dsimp only at w1 ⊢
    split at w1
    · rename_i k
      split at w1
      · rename_i kvs o es e
        obtain ⟨e1, r⟩ := R1.ok _ _ e
        exact ⟨S1.ρ k, o, es, r1.2, e1, hq S1 _ _ _ l1 R1 (iter_items (R1.lt _ _ e)) w1⟩
      · exact w1.elim
    · exact w1.elim
theorem enumD_get : ∀ {n : Nat} {ds : List D} {i : Nat} {d : D}, ds[i]? = some d → (enumD n ds)[i]? = some (.tup [.int ((n + i : Nat) : Int), d])
  | n, [], i, d, h => by simp at h
  | n, x :: ds, 0, d, h => by
    simp only [List.getElem?_cons_zero, Option.some.injEq] at h
    subst h
    rfl
  | n, x :: ds, i + 1, d, h => by
    have := enumD_get (n := n + 1) (ds := ds) (i := i) (d := d) (by simpa using h)
    rw [show n + (i + 1) = n + 1 + i by omega]
    exact this
theorem enumD_len : ∀ {n : Nat} {ds : List D}, (enumD n ds).length = ds.length
  | _, [] => rfl
  | n, x :: ds => by
    show (enumD (n + 1) ds).length + 1 = _
    rw [enumD_len]
    rfl
theorem iter_enum {W : Wd} {p : Addr} {ds : List D} {gd : Sto → Prop} {S0 : Ss} (h : ∀ S, S0.vw.le S.vw → Rl W S → gd S.μ → ∃ xs, SqL W.K S.H p xs ∧ Reps W.K S.vw ds xs) : IterD W (Ite W.K p) (enumD 0 ds) gd S0 := fun S l R g => by
  obtain ⟨xs, hs, hr⟩ := h S l R g
  rw [enumD_len]
  refine ⟨⟨xs, hs, Nat.le_of_eq hr.length⟩, fun i hi => ⟨⟨xs, xs[i]'(by rw [hr.length]; exact hi), hs, List.getElem?_eq_getElem _⟩, fun x H' y => ?_⟩⟩
  obtain ⟨q, v, rfl, hq, rfl, hv⟩ := y
  obtain ⟨d, ed, rd⟩ := hr.get' (hv xs hs)
  obtain ⟨l2, R2, g2⟩ := R.fresh (o := .tup [.int (i : Nat), v]) hq
  refine ⟨_, .tup [.int (i : Nat), d], l2, R2, rfl, rfl, by rw [enumD_get ed, Nat.zero_add], ⟨q, [.int (i : Nat), v], rfl, SqT.of g2, ?_⟩⟩
  exact ⟨_, _, rfl, rfl, _, _, rfl, rd.mono l2.1, rfl⟩
theorem i_ien {elts : List Expr} {kk : Nat} {tpos p pos : Pos} (hg : Gl X "enumerate") (hm : X.mg "enumerate" = none) (ha : PE X a (DE (wd X T cls) Wx ca)) (hs : starEach [a] X.env = [(false, eval a X.env)]) : PI X (.Tuple elts kk tpos) (.Call (.Name "enumerate" p) [a] [] pos) (DI (wd X T cls) Wx (.ien ca)) :=
  PI.weak (pi_enum hg hm (pa_cons ha pa_nil hs) hs) fun σ H KR h => by
    obtain ⟨S, δ, KI, QX, rfl, R, hE, hw, hq, hx⟩ := h
    simp only [wpI] at hw
    refine ⟨S, δ, _, QX, rfl, R, hE, hw, fun S1 d1 v1 l1 R1 r1 w1 => ?_, hx⟩
    dsimp only at w1 ⊢
    split at w1
    · rename_i ds
      obtain ⟨p, xs, rfl, g, rr⟩ := r1
      exact ⟨p, xs, rfl, SqL.of (hid_ex g), hq S1 _ _ _ l1 R1 (iter_enum fun S2 l2 R2 _ => ⟨xs, SqL.of (hid_ex (l2.1.at g fun _ z => by cases z)), rr.mono l2⟩) w1⟩
    · rename_i k
      split at w1
      · rename_i ds e
        obtain ⟨xs, e1, rr⟩ := R1.ok _ _ e
        have hk := R1.lt _ _ e
        refine ⟨S1.ρ k, xs, by rw [show v1 = V.ref (S1.ρ k) from r1.2], SqL.of e1, hq S1 _ _ _ l1 R1 (iter_enum fun S2 l2 R2 g2 => ?_) w1⟩
        obtain ⟨ys, e2, r2⟩ := R2.ok _ _ g2
        have eρ : S2.ρ k = S1.ρ k := l2.2.1 k hk
        rw [eρ] at e2
        exact ⟨ys, SqL.of e2, r2⟩
      · exact w1.elim
    · exact w1.elim
variable {st : Stmt} {rest : List Stmt} {cs cr : IR}
theorem s_nil : PSs X [] (DS (wd X T cls) Wx .nil) :=
  PSs.weak pss_nil fun E σ H h => by
    obtain ⟨S, δ, O, rfl, R, hE, hw, C⟩ := h
    simp only [wpS] at hw
    exact C.nx S δ σ (.refl _) R hE hw
theorem s_seq (h1 : PS X st (DS (wd X T cls) Wx cs)) (h2 : PSs X rest (DS (wd X T cls) Wx cr)) : PSs X (st :: rest) (DS (wd X T cls) Wx (.seq cs cr)) :=
  PSs.weak (pss_cons h1 h2) fun E σ H h => by
    obtain ⟨S, δ, O, rfl, R, hE, hw, C⟩ := h
    simp only [wpS] at hw
    exact ⟨S, δ, _, rfl, R, hE, hw, ⟨fun S1 δ1 σ1 l1 R1 E1 w1 => ⟨S1, δ1, O, rfl, R1, E1, w1, C.le l1⟩, C.rt, C.bk, C.ct, C.xc⟩⟩
theorem s_asg {t e : Expr} {cg ce : IR} (he : PE X e (DE (wd X T cls) Wx ce)) (hg : PG X t (DG (wd X T cls) cg)) (hs : swapsWithSole [t] e pos.line X.env = pure false) (hw : swappedStores [t] e X.env = pure none)
    (h1 : (assignEach [t] X.env).map (·.2) = [assign t X.env]) : PS X (.Assign [t] e pos) (DS (wd X T cls) Wx (.asg cg ce)) :=
  PS.weak (ps_asg he hg hs hw h1) fun E σ H h => by
    obtain ⟨S, δ, O, rfl, R, hE, hw, C⟩ := h
    simp only [wpS] at hw
    exact ⟨S, δ, _, _, rfl, R, hE, hw, fun S1 d1 v1 l1 R1 r1 w1 => ⟨S1, δ, d1, O.nx, rfl, R1, hE.mono l1.1, r1, w1, fun S2 δ2 σ2 l2 R2 E2 a2 w2 => C.nx S2 δ2 σ2 (l1.trans l2) R2 E2 w2⟩, C.afx hE⟩
theorem s_exp {e : Expr} {ce : IR} (he : PE X e (DE (wd X T cls) Wx ce)) (hs : swapsWith e none pos.line X.env = pure false) : PS X (.Expr e pos) (DS (wd X T cls) Wx (.exp ce)) :=
  PS.weak (ps_expr he hs) fun E σ H h => by
    obtain ⟨S, δ, O, rfl, R, hE, hw, C⟩ := h
    simp only [wpS] at hw
    exact ⟨S, δ, _, _, rfl, R, hE, hw, fun S1 d1 v1 l1 R1 r1 w1 => C.nx S1 δ σ l1 R1 (hE.mono l1.1) w1, C.afx hE⟩
theorem s_ret {e : Expr} {ce : IR} (he : PE X e (DE (wd X T cls) Wx ce)) : PS X (.Return (some e) pos) (DS (wd X T cls) Wx (.ret ce)) :=
  PS.weak (ps_ret he) fun E σ H h => by
    obtain ⟨S, δ, O, rfl, R, hE, hw, C⟩ := h
    simp only [wpS] at hw
    exact ⟨S, δ, _, _, rfl, R, hE, hw, C.rt, C.afx hE⟩
theorem s_ret0 : PS X (.Return none pos) (DS (wd X T cls) Wx .ret0) :=
  PS.weak ps_retN fun E σ H h => by
    obtain ⟨S, δ, O, rfl, R, hE, hw, C⟩ := h
    simp only [wpS] at hw
    exact C.rt S .non _ (.refl _) R rfl hw
theorem s_if {t : Expr} {b1 b2 : List Stmt} {ct c1 c2 : IR} (ht : PT X t (DT (wd X T cls) Wx ct)) (h1 : PSs X b1 (DS (wd X T cls) Wx c1)) (h2 : PSs X b2 (DS (wd X T cls) Wx c2)) : PS X (.If t b1 b2 pos) (DS (wd X T cls) Wx (.ifS ct c1 c2)) :=
  PS.weak (ps_if ht h1 h2) fun E σ H h => by
    obtain ⟨S, δ, O, rfl, R, hE, hw, C⟩ := h
    simp only [wpS] at hw
    refine ⟨S, δ, _, _, rfl, R, hE, hw, fun S1 k l1 R1 w1 => ?_, C.afx hE⟩
    cases k with
    | true =>
      rw [if_pos rfl] at w1 ⊢
      exact ⟨S1, δ, O, rfl, R1, hE.mono l1.1, w1, C.le l1⟩
    | false =>
      rw [if_neg Bool.false_ne_true] at w1 ⊢
      exact ⟨S1, δ, O, rfl, R1, hE.mono l1.1, w1, C.le l1⟩
theorem s_brk : PS X (.Break pos) (DS (wd X T cls) Wx .brk) :=
  PS.weak ps_break fun E σ H h => by
    obtain ⟨S, δ, O, rfl, R, hE, hw, C⟩ := h
    simp only [wpS] at hw
    exact C.bk S δ σ (.refl _) R hE hw
theorem s_cnt : PS X (.Continue pos) (DS (wd X T cls) Wx .cnt) :=
  PS.weak ps_continue fun E σ H h => by
    obtain ⟨S, δ, O, rfl, R, hE, hw, C⟩ := h
    simp only [wpS] at hw
    exact C.ct S δ σ (.refl _) R hE hw
theorem s_pas : PS X (.Pass pos) (DS (wd X T cls) Wx .pas) :=
  PS.weak ps_pass fun E σ H h => by
    obtain ⟨S, δ, O, rfl, R, hE, hw, C⟩ := h
    simp only [wpS] at hw
    exact C.nx S δ σ (.refl _) R hE hw
theorem s_nev : PS X st (DS (wd X T cls) Wx .nev) :=
  PS.weak ps_never fun E σ H h => by
    obtain ⟨S, δ, O, rfl, R, hE, hw, C⟩ := h
    simp only [wpS] at hw
theorem s_whl {t : Expr} {b1 : List Stmt} {ct c1 : IR} (hp : PassesOwn (model X.prog X.w) X.A X.env X.xe) (ht : PT X t (DT (wd X T cls) Wx ct)) (h1 : PSs X b1 (DS (wd X T cls) Wx c1)) : PS X (.While t b1 [] pos) (DS (wd X T cls) Wx (.whl ct c1)) :=
  PS.weak (ps_while hp ht h1) fun E σ H h => by
    obtain ⟨S, δ, O, rfl, R, hE, hw, C⟩ := h
    simp only [wpS] at hw
    obtain ⟨n, hw⟩ := hw
    refine ⟨fun m σ' H' => ∃ S1 δ1, S1.H = H' ∧ S.le S1 ∧ Rl (wd X T cls) S1 ∧ EnvR (wd X T cls) S1.vw δ1 σ' ∧ loopW (fun δ μ Q => wpT ct δ μ Q (fun x μ' => O.xc x δ μ')) (fun δ μ N => wpS c1 δ μ { O with nx := N, ct := N, bk := O.nx }) O.nx m δ1 S1.μ,
      ⟨n, S, δ, rfl, .refl _, R, hE, hw⟩, ?_⟩
    rintro m σ' H' ⟨S1, δ1, rfl, l1, R1, E1, w1⟩
    cases m with
    | zero => exact w1.elim
    | succ m =>
      have w1 : wpT ct δ1 S1.μ (fun b μ' => if b = true then wpS c1 δ1 μ' _ else O.nx δ1 μ') (fun x μ' => O.xc x δ1 μ') := w1
      refine ⟨S1, δ1, _, _, rfl, R1, E1, w1, fun S2 k l2 R2 w2 => ?_, (C.le l1).afx E1⟩
      cases k with
      | true =>
        rw [if_pos rfl] at w2 ⊢
        refine ⟨_, fun σ3 H3 h => ⟨m, Nat.lt_succ_self m, h⟩, S2, δ1, _, rfl, R2, E1.mono l2.1, w2, ?_⟩
        have lx := l1.trans l2
        exact ⟨fun S3 δ3 σ3 l3 R3 E3 w3 => ⟨S3, δ3, rfl, lx.trans l3, R3, E3, w3⟩, C.rt.le lx, fun S3 δ3 σ3 l3 R3 E3 w3 => C.nx S3 δ3 σ3 (lx.trans l3) R3 E3 w3, fun S3 δ3 σ3 l3 R3 E3 w3 => ⟨S3, δ3, rfl, lx.trans l3, R3, E3, w3⟩, (C.le lx).xc⟩
      | false =>
        rw [if_neg Bool.false_ne_true] at w2 ⊢
        exact C.nx S2 δ1 σ' (l1.trans l2) R2 (E1.mono l2.1) w2
theorem s_for {t it : Expr} {b1 : List Stmt} {cg ci c1 : IR} (hp : PassesOwn (model X.prog X.w) X.A X.env X.xe) (hc : X.calm = true) (hi : PI X t it (DI (wd X T cls) Wx ci)) (hg : PG X t (DG (wd X T cls) cg)) (h1 : PSs X b1 (DS (wd X T cls) Wx c1))
    (hs : ∀ x, foldedSetIterable it X.env x = pure x) : PS X (.For t it b1 [] pos) (DS (wd X T cls) Wx (.fr cg ci c1)) :=
  PS.weak (ps_for hp hc hi hg h1 hs) fun E σ H h => by
    obtain ⟨S, δ, O, rfl, R, hE, hw, C⟩ := h
    simp only [wpS] at hw
    refine ⟨S, δ, _, _, rfl, R, hE, hw, fun S1 J ds gd l1 R1 hJ w1 => ?_, C.afx hE⟩
    refine ⟨fun i m σ' H' => ∃ S2 δ2, S2.H = H' ∧ S1.le S2 ∧ Rl (wd X T cls) S2 ∧ EnvR (wd X T cls) S2.vw δ2 σ' ∧ i ≤ ds.length ∧ m = ds.length - i ∧
        loopF (fun x δ μ N => wpG cg x δ μ fun δ' μ' => wpS c1 δ' μ' { O with nx := N, ct := N, bk := O.nx }) gd O.nx (ds.drop i) δ2 S2.μ,
      ⟨ds.length, S1, δ, rfl, .refl _, R1, hE.mono l1.1, Nat.zero_le _, rfl, w1⟩, ?_⟩
    rintro i m σ' H' ⟨S2, δ2, rfl, l2, R2, E2, hi, rfl, w2⟩
    by_cases hlt : i < ds.length
    · have ed : ds.drop i = ds[i] :: ds.drop (i + 1) := List.drop_eq_getElem_cons hlt
      rw [ed] at w2
      obtain ⟨g2, w2⟩ := w2
      obtain ⟨_, hgo⟩ := hJ S2 l2.1 R2 g2
      obtain ⟨go, hy⟩ := hgo i hlt
      refine .inr ⟨go, _, fun σ3 H3 h => h, fun x H3 y => ?_⟩
      obtain ⟨S3, d, l3, R3, rfl, em, e3, r3⟩ := hy x H3 y
      rw [List.getElem?_eq_getElem hlt] at e3
      cases e3
      have lx := (l1.trans l2).trans l3
      rw [← em] at w2
      refine ⟨S3, δ2, _, _, rfl, R3, E2.mono l3.1, r3, w2, fun S4 δ4 σ4 l4 R4 E4 _ w4 => ⟨S4, δ4, _, rfl, R4, E4, w4, ?_⟩⟩
      have ly := lx.trans l4
      have back : ∀ S5 δ5 σ5, S4.le S5 → Rl (wd X T cls) S5 → EnvR (wd X T cls) S5.vw δ5 σ5 → loopF (fun x δ μ N => wpG cg x δ μ fun δ' μ' => wpS c1 δ' μ' { O with nx := N, ct := N, bk := O.nx }) gd O.nx (ds.drop (i + 1)) δ5 S5.μ →
          ∃ m', m' < ds.length - i ∧ ∃ S2 δ2, S2.H = S5.H ∧ S1.le S2 ∧ Rl (wd X T cls) S2 ∧ EnvR (wd X T cls) S2.vw δ2 σ5 ∧ i + 1 ≤ ds.length ∧ m' = ds.length - (i + 1) ∧ loopF (fun x δ μ N => wpG cg x δ μ fun δ' μ' => wpS c1 δ' μ' { O with nx := N, ct := N, bk := O.nx }) gd O.nx (ds.drop (i + 1)) δ2 S2.μ :=
        fun S5 δ5 σ5 l5 R5 E5 w5 => ⟨ds.length - (i + 1), by omega, S5, δ5, rfl, ((l2.trans l3).trans l4).trans l5, R5, E5, hlt, rfl, w5⟩
      exact ⟨fun S5 δ5 σ5 l5 R5 E5 w5 => back S5 δ5 σ5 l5 R5 E5 w5, C.rt.le ly, fun S5 δ5 σ5 l5 R5 E5 w5 => C.nx S5 δ5 σ5 (ly.trans l5) R5 E5 w5, fun S5 δ5 σ5 l5 R5 E5 w5 => back S5 δ5 σ5 l5 R5 E5 w5, (C.le ly).xc⟩
    · have e : i = ds.length := by omega
      subst e
      rw [List.drop_length] at w2
      obtain ⟨g2, w2⟩ := w2
      exact .inl ⟨(hJ S2 l2.1 R2 g2).1, C.nx S2 δ2 σ' (l1.trans l2) R2 E2 w2⟩
end
end M
end
section
set_option autoImplicit true
namespace M
open PySem PySem.Spec PyProof.Rows L2
theorem wipe_get (σ : L2.St) (j : Nat) : ∀ vs : List Nat, (wipe σ vs)[j]? = if j ∈ vs then (if j < σ.length then some none else none) else σ[j]?
  | [] => by simp [wipe]
  | v :: vs => by
    unfold wipe
    by_cases hv : v = j
    · subst hv
      rw [if_pos List.mem_cons_self]
      by_cases hl : v < σ.length
      · rw [if_pos hl, List.getElem?_set_self (by rw [wipe_length]; exact hl)]
      · rw [if_neg hl, List.getElem?_eq_none (by rw [List.length_set, wipe_length]; omega)]
    · rw [List.getElem?_set_ne hv, wipe_get σ j vs]
      have : j ∈ v :: vs ↔ j ∈ vs := by
        rw [List.mem_cons]
        exact ⟨fun z => z.elim (fun e => absurd e.symm hv) id, .inr⟩
      by_cases hm : j ∈ vs
      · rw [if_pos hm, if_pos (this.mpr hm)]
      · rw [if_neg hm, if_neg (fun z => hm (this.mp z))]
theorem wipeE_length (δ : Env) : ∀ vs : List Nat, (wipeE δ vs).length = δ.length
  | [] => rfl
  | v :: vs => by unfold wipeE; rw [List.length_set, wipeE_length δ vs]
theorem wipeE_some {δ : Env} {i : Nat} {x : D} : ∀ {vs : List Nat}, (wipeE δ vs)[i]? = some (some x) → δ[i]? = some (some x) ∧ i ∉ vs
  | [], h => ⟨h, by simp⟩
  | v :: vs, h => by
    unfold wipeE at h
    by_cases hi : v = i
    · subst hi
      by_cases hv : v < (wipeE δ vs).length
      · rw [List.getElem?_set_self hv] at h; cases h
      · rw [List.getElem?_eq_none (by simpa using hv)] at h; cases h
    · rw [List.getElem?_set_ne hi] at h
      obtain ⟨h1, h2⟩ := wipeE_some h
      exact ⟨h1, by simp only [List.mem_cons, not_or]; exact ⟨fun e => hi e.symm, h2⟩⟩
theorem EnvR.wipe {W : Wd} {w : Vw} {δ : Env} {σ : L2.St} (h : EnvR W w δ σ) (vs : List Nat) : EnvR W w (wipeE δ vs) (L2.wipe σ vs) := by
  refine ⟨by rw [wipeE_length, wipe_length, h.1], fun i d e => ?_⟩
  obtain ⟨e1, hn⟩ := wipeE_some e
  obtain ⟨v, ev, r⟩ := h.2 i d e1
  exact ⟨v, by rw [wipe_get, if_neg hn]; exact ev, r⟩
theorem wipe_back {σ σ2 : L2.St} {vs : List Nat} (hl : σ2.length = (wipe σ vs).length) (h : ∀ j, j ∉ vs → σ2[j]? = (wipe σ vs)[j]?) : wipe σ2 vs = wipe σ vs := by
  apply List.ext_getElem?
  intro j
  rw [wipe_get, wipe_get]
  rw [wipe_length] at hl
  by_cases hj : j ∈ vs
  · rw [if_pos hj, if_pos hj, hl]
  · rw [if_neg hj, if_neg hj, h j hj, wipe_get, if_neg hj]
section
variable {W : Wd} {S : Ss} {p : Addr} {o : HO}
theorem Rl.adopt {c : Cell} {pv' : Hp} {u : HO} (R : Rl W S) (hp : S.pv p = some u) (hv : ∀ a o, pv' a = some o → S.pv a = some o ∧ a ≠ p) (n : CellOk W ⟨hid S, newρ S.ρ S.μ.next p, S.μ.next + 1⟩ (upd S.H p o) p c) :
    S.vw.le (Ss.vw { ρ := newρ S.ρ S.μ.next p, μ := S.μ.new c, H := upd S.H p o, pv := pv' }) ∧ Rl W { ρ := newρ S.ρ S.μ.next p, μ := S.μ.new c, H := upd S.H p o, pv := pv' } := by
  have lt : ∀ {j d}, S.μ.cell j = some d → j ≠ S.μ.next := fun {j d} e => Nat.ne_of_lt (R.lt j d e)
  have nep : ∀ {j d}, S.μ.cell j = some d → S.ρ j ≠ p := fun {j d} e => (R.prv p u hp).2 j d e
  have cs : ∀ {j d}, (S.μ.new c).cell j = some d → (j = S.μ.next ∧ d = c) ∨ (j ≠ S.μ.next ∧ S.μ.cell j = some d) := fun {j d} e => by
    by_cases hj : j = S.μ.next
    · subst hj
      rw [Sto.new_same] at e
      cases e
      exact .inl ⟨rfl, rfl⟩
    · rw [Sto.new_ne hj] at e
      exact .inr ⟨hj, e⟩
  have ex : ∀ a v, hid S a = some v → hid { ρ := newρ S.ρ S.μ.next p, μ := S.μ.new c, H := upd S.H p o, pv := pv' } a = some v := fun a v h => by
    obtain ⟨h1, h2⟩ := hid_some.mp h
    have ap : a ≠ p := fun z => h2 (.inr ⟨u, by rw [z]; exact hp⟩)
    refine hid_some.mpr ⟨(upd_ne ap).trans h1, ?_⟩
    rintro (⟨j, d, e1, e2⟩ | ⟨x, e1⟩)
    · have e2 : newρ S.ρ S.μ.next p j = a := e2
      rcases cs e1 with ⟨rfl, _⟩ | ⟨n1, e3⟩
      · rw [newρ_same] at e2
        exact ap e2.symm
      · rw [newρ_ne n1] at e2
        exact h2 (.inl ⟨j, d, e3, e2⟩)
    · exact h2 (.inr ⟨x, (hv a x e1).1⟩)
  have l : S.vw.le (Ss.vw { ρ := newρ S.ρ S.μ.next p, μ := S.μ.new c, H := upd S.H p o, pv := pv' }) := ⟨Ext.of_ex ex, fun k hk => newρ_ne (Nat.ne_of_lt hk), Nat.le_succ _⟩
  have lv : Vw.le ⟨hid S, newρ S.ρ S.μ.next p, S.μ.next + 1⟩ (Ss.vw { ρ := newρ S.ρ S.μ.next p, μ := S.μ.new c, H := upd S.H p o, pv := pv' }) := ⟨l.1, fun _ _ => rfl, Nat.le_refl _⟩
  refine ⟨l, fun i j d e h1 h2 h3 => ?_, fun j d e => ?_, fun j d e => ?_, fun a ha => tab_ext l.1 (R.tab a ha), fun a v e => ⟨?_, fun j d e2 => ?_⟩, lam_ex R.lam ex⟩
  · have h3 : newρ S.ρ S.μ.next p i = newρ S.ρ S.μ.next p j := h3
    rcases cs h1 with ⟨e1, _⟩ | ⟨n1, e1⟩ <;> rcases cs h2 with ⟨e2, _⟩ | ⟨n2, e2⟩
    · rw [e1, e2]
    · rw [e1, newρ_same, newρ_ne n2] at h3
      exact absurd h3.symm (nep e2)
    · rw [e2, newρ_same, newρ_ne n1] at h3
      exact absurd h3 (nep e1)
    · rw [newρ_ne n1, newρ_ne n2] at h3
      exact R.inj i j d e e1 e2 h3
  · rcases cs e with ⟨e1, _⟩ | ⟨n1, e1⟩
    · rw [e1]
      exact Nat.lt_succ_self _
    · exact Nat.lt_succ_of_lt (R.lt j d e1)
  · rcases cs e with ⟨e1, e2⟩ | ⟨n1, e1⟩
    · subst e1 e2
      show CellOk W _ _ (newρ S.ρ S.μ.next p S.μ.next) d
      rw [newρ_same]
      exact n.mono lv rfl
    · show CellOk W _ _ (newρ S.ρ S.μ.next p j) d
      rw [newρ_ne n1]
      exact (R.ok j d e1).mono l (upd_ne (nep e1))
  · obtain ⟨h1, h2⟩ := hv a v e
    exact (upd_ne h2).trans (R.prv a v h1).1
  · show newρ S.ρ S.μ.next p j ≠ a
    obtain ⟨h1, h2⟩ := hv a v e
    rcases cs e2 with ⟨e3, _⟩ | ⟨n1, e3⟩
    · rw [e3, newρ_same]
      exact fun z => h2 z.symm
    · rw [newρ_ne n1]
      exact (R.prv a v h1).2 j d e3
end
abbrev W0 : WX := fun _ _ _ _ => False
section
variable {X : Cx} {T : List Addr} {cls : Nat → Addr} {Wx : WX}
variable {elt tg iter : Expr} {ifs : List Expr} {scope : Scope} {own : List (Str × Nat)} {pos : Pos} {cg ci ct ce : IR}
theorem lc_read {σ : L2.St} {H : Hp} {Q : VK} (hsl : ∀ j ∈ slotsG cg, j ∈ own.map (·.2)) (h : DE (wd X T cls) Wx (.cpr own cg ci ct ce) σ H Q) :
    tLc (DI (wd X T cls) Wx ci) (DG (wd X T cls) cg) (DT (wd X T cls) W0 ct) (DE (wd X T cls) W0 ce) (own.map (·.2)) σ H Q := by
  obtain ⟨S, δ, QM, QX, rfl, R, hE, hw, hq, hx⟩ := h
  simp only [wpE] at hw
  refine ⟨S, δ, _, QX, rfl, R, hE, hw, fun S1 J ds gd l1 R1 hJ w1 => ?_, hx⟩
  intro D hD
  have pvD : S1.pv D = none := by
    cases e : S1.pv D with
    | none => rfl
    | some o =>
      have := (R1.prv D o e).1
      rw [hD] at this
      cases this
  obtain ⟨lk, Rk⟩ := R1.keep (o := .lst []) hD
  refine ⟨fun i m H' => ∃ S2 acc vs, S2.H = H' ∧ S1.vw.le S2.vw ∧ S2.pv = upd S1.pv D (.lst vs) ∧ Rl (wd X T cls) S2 ∧ Reps X.K S2.vw acc vs ∧ i ≤ ds.length ∧ m = ds.length - i ∧
      loopC (fun x μ N => wpG cg x (wipeE δ (own.map (·.2))) μ fun δ2 μ2 => wpT ct δ2 μ2 (fun b μ3 => if b = true then wpE ce δ2 μ3 (fun y μ4 => N (some y) μ4) (fun _ _ => False) else N none μ3) (fun _ _ => False)) gd (fun ys μ2 => QM (.lst ys) μ2) (ds.drop i) acc S2.μ,
    ⟨ds.length, _, [], [], rfl, lk, rfl, Rk, rfl, Nat.zero_le _, rfl, w1⟩, ?_⟩
  rintro i m H' ⟨S2, acc, vs, rfl, l2, hpv, R2, ra, hi, rfl, w2⟩
  by_cases hlt : i < ds.length
  · have ed : ds.drop i = ds[i] :: ds.drop (i + 1) := List.drop_eq_getElem_cons hlt
    rw [ed] at w2
    obtain ⟨g2, w2⟩ := w2
    obtain ⟨_, hgo⟩ := hJ S2 l2 R2 g2
    obtain ⟨go, hy⟩ := hgo i hlt
    refine .inr ⟨go, _, fun H3 h => h, fun x H3 y => ?_⟩
    obtain ⟨S3, d, l3, R3, rfl, em, e3, r3⟩ := hy x H3 y
    rw [List.getElem?_eq_getElem hlt] at e3
    cases e3
    rw [← em] at w2
    have fin : ∀ {S' : Ss} {acc' vs'}, S3.vw.le S'.vw → S'.pv = upd S1.pv D (.lst vs') → Rl (wd X T cls) S' → Reps X.K S'.vw acc' vs' → loopC (fun x μ N => wpG cg x (wipeE δ (own.map (·.2))) μ fun δ2 μ2 => wpT ct δ2 μ2 (fun b μ3 => if b = true then wpE ce δ2 μ3 (fun y μ4 => N (some y) μ4) (fun _ _ => False) else N none μ3) (fun _ _ => False)) gd (fun ys μ2 => QM (.lst ys) μ2) (ds.drop (i + 1)) acc' S'.μ →
        ∃ m', m' < ds.length - i ∧ ∃ S2 acc vs, S2.H = S'.H ∧ S1.vw.le S2.vw ∧ S2.pv = upd S1.pv D (.lst vs) ∧ Rl (wd X T cls) S2 ∧ Reps X.K S2.vw acc vs ∧ i + 1 ≤ ds.length ∧ m' = ds.length - (i + 1) ∧
          loopC (fun x μ N => wpG cg x (wipeE δ (own.map (·.2))) μ fun δ2 μ2 => wpT ct δ2 μ2 (fun b μ3 => if b = true then wpE ce δ2 μ3 (fun y μ4 => N (some y) μ4) (fun _ _ => False) else N none μ3) (fun _ _ => False)) gd (fun ys μ2 => QM (.lst ys) μ2) (ds.drop (i + 1)) acc S2.μ :=
      fun {S' acc' vs'} l hp R' r' w' => ⟨ds.length - (i + 1), by omega, S', acc', vs', rfl, (l2.trans l3.1).trans l, hp, R', r', hlt, rfl, w'⟩
    refine ⟨S3, wipeE δ (own.map (·.2)), ds[i], _, rfl, R3, (hE.mono (l1.1.trans (l2.trans l3.1))).wipe _, r3, w2, fun S4 δ4 σ4 l4 R4 E4 a4 w4 => ⟨wipe_back a4.1 fun j hj => a4.2 j fun z => hj (hsl j z), S4, δ4, _, _, rfl, R4, E4, w4, fun S5 b l5 R5 w5 => ?_, afx_no⟩⟩
    cases b with
    | true =>
      rw [if_pos rfl] at w5 ⊢
      refine ⟨S5, δ4, _, _, rfl, R5, E4.mono l5.1, w5, fun S6 yd yv l6 R6 r6 w6 => ?_, afx_no⟩
      have pv6 : S6.pv = upd S1.pv D (.lst vs) := by rw [l6.2, l5.2, l4.2, l3.2, hpv]
      have at6 : S6.pv D = some (.lst vs) := by rw [pv6]; exact upd_same
      have l26 : S2.vw.le S6.vw := ((l3.1.trans l4.1).trans l5.1).trans l6.1
      obtain ⟨hz, w6⟩ := w6
      refine ⟨vs, (R6.prv D _ at6).1, by rw [ra.length]; exact hz, ?_⟩
      obtain ⟨l7, R7⟩ := R6.rekeep (o := .lst (vs ++ [yv])) at6
      refine fin (S' := { S6 with H := upd S6.H D (.lst (vs ++ [yv])), pv := upd S6.pv D (.lst (vs ++ [yv])) }) (vs' := vs ++ [yv]) ((l4.1.trans (l5.1.trans l6.1)).trans l7) ?_ R7 (((ra.mono l26).append (Reps.one r6)).mono l7) w6
      show upd S6.pv D _ = _
      rw [pv6, upd_upd]
    | false =>
      rw [if_neg Bool.false_ne_true] at w5 ⊢
      exact fin (l4.1.trans l5.1) (by rw [l5.2, l4.2, l3.2, hpv]) R5 (ra.mono ((l3.1.trans l4.1).trans l5.1)) w5
  · have e : i = ds.length := by omega
    subst e
    rw [List.drop_length] at w2
    obtain ⟨g2, w2⟩ := w2
    refine .inl ⟨(hJ S2 l2 R2 g2).1, ?_⟩
    have at2 : S2.pv D = some (.lst vs) := by rw [hpv]; exact upd_same
    obtain ⟨l3, R3⟩ := R2.give (pv' := S1.pv) fun a o e => by
      rw [hpv]
      by_cases ha : a = D
      · rw [ha, pvD] at e
        cases e
      · rw [upd_ne ha]
        exact e
    refine hq { S2 with pv := S1.pv } (.lst acc) (.ref D) (l1.trans ⟨l2.trans l3, rfl⟩) R3 ⟨D, vs, rfl, hid_some.mpr ⟨(R2.prv D _ at2).1, ?_⟩, ra.mono l3⟩ w2
    rintro (⟨k, c, h1, h2⟩ | ⟨o, h1⟩)
    · exact (R2.prv D _ at2).2 k c h1 h2
    · have h1 : S1.pv D = some o := h1
      rw [pvD] at h1
      cases h1
theorem d_cpr (hc : X.calm = true) (hN : X.N.Nodup) (hi : PI X tg iter (DI (wd X T cls) Wx ci)) (ok : BlkOk X.N X.env.scope scope own) (hsl : ∀ j ∈ slotsG cg, j ∈ own.map (·.2))
    (hg : ∀ (s : Shared) (H : Hp) (C : Addr) (cl : List (Str × Addr)) (fp : List Addr), PG (X.blk s H scope (compEnvC scope cl C X.env) fp) tg (DG (wd X T cls) cg)) (ht : ∀ (s : Shared) (H : Hp) (C : Addr) (cl : List (Str × Addr)) (fp : List Addr), PTs (X.blk s H scope (compEnvC scope cl C X.env) fp) ifs (DT (wd X T cls) W0 ct))
    (he : ∀ (s : Shared) (H : Hp) (C : Addr) (cl : List (Str × Addr)) (fp : List Addr), PE (X.blk s H scope (compEnvC scope cl C X.env) fp) elt (DE (wd X T cls) W0 ce)) (hs : ∀ x, foldedSetIterable iter X.env x = pure x) :
    PE X (.ListComp elt [⟨tg, iter, ifs, 0⟩] scope pos) (DE (wd X T cls) Wx (.cpr own cg ci ct ce)) :=
  PE.weak (pe_lc hc hN hi ok hg ht he hs) fun σ H Q h => lc_read hsl h
theorem s_asc {i : Nat} {y : Str} {py spos : Pos} (hc : X.calm = true) (hN : X.N.Nodup) (hy : X.N[i]? = some y) (hyl : X.env.scope.names.lookup y = some .local)
    (hsw : swapsWith (.ListComp elt [⟨tg, iter, ifs, 0⟩] scope pos) (some (.Name y py)) spos.line X.env = pure true) (hi : PI X tg iter (DI (wd X T cls) Wx ci)) (ok : BlkOk X.N X.env.scope scope own) (hsl : ∀ j ∈ slotsG cg, j ∈ own.map (·.2))
    (hg : ∀ (s : Shared) (H : Hp) (C : Addr) (cl : List (Str × Addr)) (fp : List Addr), PG (X.blk s H scope (compEnvC scope cl C X.env) fp) tg (DG (wd X T cls) cg)) (ht : ∀ (s : Shared) (H : Hp) (C : Addr) (cl : List (Str × Addr)) (fp : List Addr), PTs (X.blk s H scope (compEnvC scope cl C X.env) fp) ifs (DT (wd X T cls) W0 ct))
    (he : ∀ (s : Shared) (H : Hp) (C : Addr) (cl : List (Str × Addr)) (fp : List Addr), PE (X.blk s H scope (compEnvC scope cl C X.env) fp) elt (DE (wd X T cls) W0 ce)) (hs : ∀ x, foldedSetIterable iter X.env x = pure x) :
    PS X (.Assign [.Name y py] (.ListComp elt [⟨tg, iter, ifs, 0⟩] scope pos) spos) (DS (wd X T cls) Wx (.asc i (.cpr own cg ci ct ce))) :=
  PS.weak (ps_setLc hc hN hy hyl hsw hi ok hg ht he hs) fun E σ H h => by
    obtain ⟨S, δ, O, rfl, R, hE, hw, C⟩ := h
    simp only [wpS] at hw
    exact lc_read hsl ⟨S, δ, _, _, rfl, R, hE, hw, fun S1 d1 v1 l1 R1 r1 w1 => C.nx S1 _ _ l1 R1 ((hE.mono l1.1).set r1) w1, C.afx hE⟩
theorem dc_read {ck cv : IR} {σ : L2.St} {H : Hp} {Q : VK} (hsl : ∀ j ∈ slotsG cg, j ∈ own.map (·.2)) (h : DE (wd X T cls) Wx (.dcp own cg ci ck cv) σ H Q) :
    tDc (DI (wd X T cls) Wx ci) (DG (wd X T cls) cg) (DT (wd X T cls) W0 .nop) (DE (wd X T cls) W0 ck) (DE (wd X T cls) W0 cv) (own.map (·.2)) σ H Q := by
  obtain ⟨S, δ, QM, QX, rfl, R, hE, hw, hq, hx⟩ := h
  simp only [wpE] at hw
  refine ⟨S, δ, _, QX, rfl, R, hE, hw, fun S1 J ds gd l1 R1 hJ w1 => ?_, hx⟩
  intro D hD
  have noD : S1.pv D = none := by
    cases e : S1.pv D with
    | none => rfl
    | some o =>
      have := (R1.prv D o e).1
      rw [hD] at this
      cases this
  obtain ⟨lk, Rk⟩ := R1.keep (o := .dK []) hD
  refine ⟨fun i m H' => ∃ S2 acc vs, S2.H = H' ∧ S1.vw.le S2.vw ∧ S2.pv = upd S1.pv D (.dK vs) ∧ Rl (wd X T cls) S2 ∧ RepP X.K S2.vw acc vs ∧ i ≤ ds.length ∧ m = ds.length - i ∧
      loopK (fun x μ N => wpG cg x (wipeE δ (own.map (·.2))) μ fun δ2 μ2 => wpE ck δ2 μ2 (fun kd μ3 => wpE cv δ2 μ3 (fun y μ4 => match keyOf kd with
    | some k => N k y μ4
    | none => False) (fun _ _ => False)) (fun _ _ => False)) gd (fun kvs μ2 => QM (.obj μ2.next) (μ2.new (.dct kvs))) (ds.drop i) acc S2.μ,
    ⟨ds.length, _, [], [], rfl, lk, rfl, Rk, rfl, Nat.zero_le _, rfl, w1⟩, ?_⟩
  rintro i m H' ⟨S2, acc, vs, rfl, l2, hpv, R2, ra, hi, rfl, w2⟩
  by_cases hlt : i < ds.length
  · have ed : ds.drop i = ds[i] :: ds.drop (i + 1) := List.drop_eq_getElem_cons hlt
    rw [ed] at w2
    obtain ⟨g2, w2⟩ := w2
    obtain ⟨go, hy⟩ := (hJ S2 l2 R2 g2).2 i hlt
    refine .inr ⟨go, _, fun H3 h => h, fun x H3 y => ?_⟩
    obtain ⟨S3, d, l3, R3, rfl, em, e3, r3⟩ := hy x H3 y
    rw [List.getElem?_eq_getElem hlt] at e3
    cases e3
    rw [← em] at w2
    refine ⟨S3, wipeE δ (own.map (·.2)), ds[i], _, rfl, R3, (hE.mono (l1.1.trans (l2.trans l3.1))).wipe _, r3, w2, fun S4 δ4 σ4 l4 R4 E4 a4 w4 => ⟨wipe_back a4.1 fun j hj => a4.2 j fun z => hj (hsl j z), S4, δ4, fun b μ => b = true ∧ μ = S4.μ, fun _ _ => False, rfl, R4, E4, by simp only [wpT]; exact ⟨trivial, trivial⟩, fun S5 b l5 R5 w5 => ?_, afx_no⟩⟩
    obtain ⟨rfl, em5⟩ := w5
    rw [if_pos rfl]
    rw [← em5] at w4
    refine ⟨S5, δ4, _, _, rfl, R5, E4.mono l5.1, w4, fun S6 kd kv l6 R6 r6 w6 => ⟨S6, δ4, _, _, rfl, R6, E4.mono (l5.1.trans l6.1), w6, fun S7 yd yv l7 R7 r7 w7 => ?_, afx_no⟩, afx_no⟩
    dsimp only at w7
    split at w7
    · rename_i key ek
      have hkv := key_rep ek r6
      have pv7 : S7.pv = upd S1.pv D (.dK vs) := by rw [l7.2, l6.2, l5.2, l4.2, l3.2, hpv]
      have at7 : S7.pv D = some (.dK vs) := by rw [pv7]; exact upd_same
      have l27 : S2.vw.le S7.vw := (((l3.1.trans l4.1).trans l5.1).trans l6.1).trans l7.1
      obtain ⟨hz, w7⟩ := w7
      obtain ⟨l8, R8⟩ := R7.rekeep (o := .dK (putK vs key yv)) at7
      refine ⟨vs, key, hkv, (R7.prv D _ at7).1, by rw [ra.len]; exact hz, ds.length - (i + 1), by omega, { S7 with H := upd S7.H D (.dK (putK vs key yv)), pv := upd S7.pv D (.dK (putK vs key yv)) }, _, putK vs key yv, rfl, (l2.trans l27).trans l8, ?_, R8, ((ra.mono l27).put r7).mono l8, hlt, rfl, w7⟩
      show upd S7.pv D _ = _
      rw [pv7, upd_upd]
    · exact w7.elim
  · have e : i = ds.length := by omega
    subst e
    rw [List.drop_length] at w2
    obtain ⟨g2, w2⟩ := w2
    refine .inl ⟨(hJ S2 l2 R2 g2).1, ?_⟩
    have at2 : S2.pv D = some (.dK vs) := by rw [hpv]; exact upd_same
    have hv : ∀ a o, S1.pv a = some o → S2.pv a = some o ∧ a ≠ D := fun a o e => by
      have ha : a ≠ D := fun z => by rw [z, noD] at e; cases e
      exact ⟨by rw [hpv, upd_ne ha]; exact e, ha⟩
    have atH := (R2.prv D _ at2).1
    have eqH : upd S2.H D (.dK vs) = S2.H := by
      funext b
      by_cases hb : b = D
      · rw [hb, upd_same, atH]
      · exact upd_ne hb
    obtain ⟨l3, R3⟩ := R2.adopt (c := .dct acc) (pv' := S1.pv) (o := .dK vs) at2 hv ⟨_, upd_same, ra.mono (w := S2.vw) (w' := ⟨hid S2, newρ S2.ρ S2.μ.next D, S2.μ.next + 1⟩) ⟨Ext.refl _, fun k hk => newρ_ne (Nat.ne_of_lt hk), Nat.le_succ _⟩⟩
    have := hq _ (.obj S2.μ.next) (.ref D) (l1.trans ⟨l2.trans l3, rfl⟩) R3 ⟨Nat.lt_succ_self _, by show V.ref D = V.ref (newρ S2.ρ S2.μ.next D S2.μ.next); rw [newρ_same]⟩ w2
    dsimp only at this
    rw [eqH] at this
    exact this
theorem d_dcp {kx vx : Expr} {ck cv : IR} (hc : X.calm = true) (hN : X.N.Nodup) (hi : PI X tg iter (DI (wd X T cls) Wx ci)) (ok : BlkOk X.N X.env.scope scope own) (hsl : ∀ j ∈ slotsG cg, j ∈ own.map (·.2))
    (hg : ∀ (s : Shared) (H : Hp) (C : Addr) (cl : List (Str × Addr)) (fp : List Addr), PG (X.blk s H scope (compEnvC scope cl C X.env) fp) tg (DG (wd X T cls) cg))
    (hk : ∀ (s : Shared) (H : Hp) (C : Addr) (cl : List (Str × Addr)) (fp : List Addr), PE (X.blk s H scope (compEnvC scope cl C X.env) fp) kx (DE (wd X T cls) W0 ck))
    (hv : ∀ (s : Shared) (H : Hp) (C : Addr) (cl : List (Str × Addr)) (fp : List Addr), PE (X.blk s H scope (compEnvC scope cl C X.env) fp) vx (DE (wd X T cls) W0 cv)) (hs : ∀ x, foldedSetIterable iter X.env x = pure x) :
    PE X (.DictComp kx vx [⟨tg, iter, [], 0⟩] scope pos) (DE (wd X T cls) Wx (.dcp own cg ci ck cv)) :=
  PE.weak (pe_dc hc hN hi ok hg (fun s H C cl fp => PTs.weak pts_nil fun σ H Q h => by
    obtain ⟨S, δ, QM, QX, rfl, R, hE, hw, hq, hx⟩ := h
    simp only [wpT] at hw
    exact hq S true (.refl _) R hw) hk hv hs) fun σ H Q h => dc_read hsl h
theorem ts_nil : PTs X [] (DT (wd X T cls) Wx .nop) :=
  PTs.weak pts_nil fun σ H Q h => by
    obtain ⟨S, δ, QM, QX, rfl, R, hE, hw, hq, hx⟩ := h
    simp only [wpT] at hw
    exact hq S true (.refl _) R hw
theorem ts_one {c : Expr} (h : PT X c (DT (wd X T cls) Wx ct)) : PTs X [c] (DT (wd X T cls) Wx ct) := pts_one h
def lift (W : Wd) (sp : Spec) : Sp := fun vs H Q E => ∃ S ds QM QX, S.H = H ∧ Rl W S ∧ Reps W.K S.vw ds vs ∧ sp ds S.μ QM QX ∧ After W S QM Q ∧ AfterX W S QX E
structure Bs where
  P : Program
  w : World
  K : PySem.W.Frag
  mg : Str → Option Value
  base : Heap
abbrev Cx.bs (X : Cx) : Bs := ⟨X.prog, X.w, X.K, X.mg, X.base⟩
def FnC (B : Bs) (T : List Addr) (cls : Nat → Addr) (k : Nat) (x : Str) (sp : Spec) : Prop :=
  ∃ (f : Addr) (fd : FuncData) (ps : List Str) (sp' : Spec) (dd : List D) (dvs : List V) (dus : List Value), B.mg x = some (.ref f) ∧ PySem.W.keepIn B.K (.ref f) = true ∧ (x == ("__debug__" : Str)) = false ∧
    FnOk B.P B.w B.K B.mg B.base (L2N.CX B.P B.w) k f fd ps (lift ⟨B.K, T, cls⟩ sp') ∧ Binds B.K fd ps dus ∧ Vals dvs dus ∧ (∀ w, Reps B.K w dd dvs) ∧ ∀ ds μ Q E, sp ds μ Q E → sp' (ds ++ dd) μ Q E
def BiC (B : Bs) (T : List Addr) (cls : Nat → Addr) (k : Nat) (x : Str) (sp : Spec) : Prop :=
  B.mg x = none ∧ x ≠ "__name__" ∧ (x == ("__debug__" : Str)) = false ∧ ∃ u : Value, bootBuiltins x = some u ∧ ((∃ id, u = .builtin id) ∨ ∃ id, u = .type id) ∧
    ∀ X : Cx, Cx.bs X = B → X.calm = true → Room k X.A → CallR X u fun vs H Q => ∃ S ds QM, S.H = H ∧ Rl (wd X T cls) S ∧ Reps X.K S.vw ds vs ∧ sp ds S.μ QM (fun _ _ => False) ∧ After (wd X T cls) S QM Q
def CalC (B : Bs) (T : List Addr) (cls : Nat → Addr) (k : Nat) (x : Str) (sp : Spec) : Prop := FnC B T cls k x sp ∨ (BiC B T cls k x sp ∧ ∀ ds μ Q E, sp ds μ Q E → sp ds μ Q (fun _ _ => False))
variable {e : Expr} {es : List Expr} {ca : IR} {k : Nat} {x : Str} {sp : Spec} {p : Pos}
theorem d_cal (hr : Room k X.A) (hc : X.calm = true) (tk : L2N.Takes X Wx) (h : CalC (Cx.bs X) T cls k x sp) (hg : Gl X x) (ha : PA X (e :: es) (DA (wd X T cls) Wx ca))
    (he : starEach (e :: es) X.env = (false, eval e X.env) :: starEach es X.env) (hpl : (backTo pos (starEach es X.env)).any (·.1) = false) : PE X (.Call (.Name x p) (e :: es) [] pos) (DE (wd X T cls) Wx (.cal x sp ca)) := by
  rcases h with ⟨f, fd, ps, sp', dd, dvs, dus, hm, hk, hdb, F, b, hd, hrd, imp⟩ | ⟨⟨hm, hn, hdb, u, hv, hu, hcr⟩, himp⟩
  · refine PE.weak (pe_callSD F hr hg hm hk b hd (L2N.passAt tk) ha hdb he hpl) fun σ H Q h => ?_
    obtain ⟨S, δ, QM, QX, rfl, R, hE, hw, hq, hx⟩ := h
    simp only [wpE] at hw
    exact ⟨S, δ, _, QX, rfl, R, hE, hw, fun S1 ds vs l1 R1 r1 w1 => ⟨S1, ds ++ dd, QM, QX, rfl, R1, r1.append (hrd _), imp _ _ _ _ w1, hq.le l1, hx.le l1⟩, hx⟩
  · have hcr := hcr X rfl hc hr
    have red : ∀ σ H Q, DE (wd X T cls) Wx (.cal x sp ca) σ H Q → DA (wd X T cls) Wx ca σ H fun vs H1 => ∃ S ds QM, S.H = H1 ∧ Rl (wd X T cls) S ∧ Reps X.K S.vw ds vs ∧ sp ds S.μ QM (fun _ _ => False) ∧ After (wd X T cls) S QM Q := fun σ H Q h => by
      obtain ⟨S, δ, QM, QX, rfl, R, hE, hw, hq, hx⟩ := h
      simp only [wpE] at hw
      exact ⟨S, δ, _, QX, rfl, R, hE, hw, fun S1 ds vs l1 R1 r1 w1 => ⟨S1, ds, QM, rfl, R1, r1, himp _ _ _ _ w1, hq.le l1⟩, hx⟩
    rcases hu with ⟨id, rfl⟩ | ⟨id, rfl⟩
    · exact PE.weak (pe_callB hcr hg hm hv ha hn hdb he hpl) red
    · exact PE.weak (pe_callTy hcr hg hm hv ha hn hdb he hpl) red
end
end M
end
section
set_option autoImplicit true
namespace M
open PySem PySem.Spec PyProof.Rows L2
def isSlice : Expr → Bool
  | .Slice .. => true
  | _ => false
def isStar : Expr → Bool
  | .Starred .. => true
  | _ => false
def isComp : Expr → Bool
  | .ListComp .. | .SetComp .. | .DictComp .. => true
  | _ => false
def isCall : Expr → Bool
  | .Call .. => true
  | _ => false
def isSetE : Expr → Bool
  | .Set .. => true
  | _ => false
def isSeqE : Expr → Bool
  | .Tuple .. | .List .. => true
  | _ => false
def isTupE : Expr → Bool
  | .Tuple .. => true
  | _ => false
def isBoolE : Expr → Bool
  | .BoolOp .. => true
  | _ => false
def isPlainT : Expr → Bool
  | .UnaryOp .Not _ _ | .BoolOp .. | .IfExp .. | .Compare .. => false
  | _ => true
def visB (sc : Scope) (x : Str) : Bool := match sc.names.lookup x with
  | some .local | some .cell | some .free => true
  | _ => false
def glB (sc : Scope) (x : Str) : Bool := decide (sc.names.lookup x = some .globalImplicit)
def locB (sc : Scope) (top : Bool) (x : Str) : Bool := match sc.names.lookup x with
  | some .local => true
  | some .cell => top
  | _ => false
def okName (x : Str) : Bool := !(x == ("__debug__" : Str)) && !(x == ("__classdict__" : Str))
def conB : D → Const → Bool
  | .int i, .int j => decide (i = j)
  | .str s, .str t => decide (s = t)
  | .bl b, .bool c => b == c
  | .non, .none => true
  | _, _ => false
def noFree (sc : Scope) : Bool := sc.names.all fun y => match y.2 with
  | .free => false
  | .cell => false
  | _ => true
def chkOpt (c : IR) (e : Option Expr) (f : Expr → Bool) : Bool := match c, e with
  | .nop, none => true
  | .nop, some _ => false
  | _, some e => f e
  | _, none => false
def chkTs (c : IR) (es : List Expr) (f : Expr → Bool) : Bool := match c, es with
  | .nop, [] => true
  | .nop, _ :: _ => false
  | _, [e] => f e
  | _, _ => false
def chkN (N : List Str) : IR → Scope → Expr → Bool
  | .gN i, scope, .Name x _ => decide (N[i]? = some x) && decide (scope.names.lookup x = some .cell)
  | _, _, _ => false
def cellT (sc : Scope) : Expr → Bool
  | .Tuple [.Name x _, .Name _ _] _ _ => decide (sc.names.lookup x = some .cell)
  | _ => false
mutual
def chkE (N : List Str) : IR → Scope → Bool → Expr → Bool
  | .var i, sc, _, .Name x _ => decide (N[i]? = some x) && visB sc x && okName x
  | .con d, _, _, .Constant c _ _ => conB d c
  | .glb x _, sc, _, .Name y _ => decide (x = y) && glB sc y && okName y
  | .bty n, sc, _, .Name y _ => decide (Str.ofString n = y) && glB sc y && okName y
  | .bin o a b, sc, t, .BinOp l p r _ => decide (o = p) && chkE N a sc t l && chkE N b sc t r
  | .neg a, sc, t, .UnaryOp .USub x _ => chkE N a sc t x
  | .notV a, sc, t, .UnaryOp .Not x _ => chkE N a sc t x
  | .cmp o a b, sc, t, .Compare l [p] [r] _ => decide (o = p) && !behindInMarks p r && chkE N a sc t l && chkE N b sc t r
  | .chn o o' a b c, sc, t, .Compare l [p, p'] [r, r'] _ => decide (o = p) && decide (o' = p') && !lastMarks [p, p'] [r, r'] && chkE N a sc t l && chkE N b sc t r && chkE N c sc t r'
  | .one a, sc, t, .BoolOp _ [x] _ => chkE N a sc t x
  | .andV a r, sc, t, .BoolOp .And (x :: y :: es) pos => chkE N a sc t x && chkE N r sc t (.BoolOp .And (y :: es) pos)
  | .orV a r, sc, t, .BoolOp .Or (x :: y :: es) pos => chkE N a sc t x && chkE N r sc t (.BoolOp .Or (y :: es) pos)
  | .ife c a b, sc, t, .IfExp x y z _ => chkT N c sc t x && chkE N a sc t y && chkE N b sc t z
  | .ix a i, sc, t, .Subscript x y _ => !isSlice y && chkE N a sc t x && chkE N i sc t y
  | .sl a lo hi, sc, t, .Subscript x (.Slice l h none _) _ => chkE N a sc t x && chkOpt lo l (fun e => chkE N lo sc t e) && chkOpt hi h (fun e => chkE N hi sc t e)
  | .tupC as, sc, t, .Tuple es _ _ => chkA N as sc t es
  | .lstC as, sc, t, .List es _ => chkA N as sc t es
  | .lstM as, sc, t, .List es _ => chkA N as sc t es
  | .cal x _ as, sc, t, .Call (.Name y _) es [] _ => decide (x = y) && glB sc y && !es.isEmpty && chkA N as sc t es
  | .bme _ _ m _ o as, sc, t, .Call (.Attribute x a apos) es [] pos => decide (m = a) && !isCall x && !es.isEmpty && decide (es.length < 30) && (apos.endLine == pos.line) && chkE N o sc t x && chkA N as sc t es
  | .mcl m _ o as, sc, t, .Call (.Attribute x a apos) es [] pos => decide (m = a) && !isCall x && decide (es.length < 30) && (apos.endLine == pos.line) && chkE N o sc t x && chkA N as sc t es
  | .cpr own g it c e, sc, t, .ListComp elt [⟨tg, iter, ifs, as⟩] scope _ => decide (as = 0) && blkC N sc scope own && (slotsG g).all (fun j => decide (j ∈ own.map (·.2))) && !isSetE iter && chkI N it sc t tg iter && (chkG N g (relS scope sc) false tg || chkN N g scope tg) && chkTs c ifs (fun e => chkT N c (relS scope sc) false e) && chkE N e (relS scope sc) false elt
  | .dcp own g it ke ve, sc, t, .DictComp kx vx [⟨tg, iter, [], as⟩] scope _ => decide (as = 0) && blkC N sc scope own && (slotsG g).all (fun j => decide (j ∈ own.map (·.2))) && !isSetE iter && chkI N it sc t tg iter && chkG N g (relS scope sc) false tg && chkE N ke (relS scope sc) false kx && chkE N ve (relS scope sc) false vx
  | .frz a, sc, t, e => chkE N a sc t e
  | .lkE _ a, sc, t, e => chkE N a sc t e
  | .nod f _ as, sc, t, e => match f N sc t e with
    | some es => chkA N as sc t es
    | none => false
  | _, _, _, _ => false
def chkA (N : List Str) : IR → Scope → Bool → List Expr → Bool
  | .nil, _, _, [] => true
  | .cons a r, sc, t, e :: es => !isStar e && chkE N a sc t e && chkA N r sc t es
  | _, _, _, _ => false
def chkT (N : List Str) : IR → Scope → Bool → Expr → Bool
  | .cmp o a b, sc, t, .Compare l [p] [r] _ => decide (o = p) && !behindInMarks p r && chkE N a sc t l && chkE N b sc t r
  | .chn o o' a b c, sc, t, .Compare l [p, p'] [r, r'] _ => decide (o = p) && decide (o' = p') && !lastMarks [p, p'] [r, r'] && chkE N a sc t l && chkE N b sc t r && chkE N c sc t r'
  | .tV a, sc, t, e => isPlainT e && chkE N a sc t e
  | .tnd f _ as, sc, t, e => !isBoolE e && match f N sc t e with
    | some es => chkA N as sc t es
    | none => false
  | .tNot a, sc, t, .UnaryOp .Not x _ => chkT N a sc t x
  | .tOne a, sc, t, .BoolOp _ [x] _ => chkT N a sc t x
  | .tAnd a r, sc, t, .BoolOp .And (x :: y :: es) pos => chkT N a sc t x && chkT N r sc t (.BoolOp .And (y :: es) pos)
  | .tOr a r, sc, t, .BoolOp .Or (x :: y :: es) pos => chkT N a sc t x && chkT N r sc t (.BoolOp .Or (y :: es) pos)
  | _, _, _, _ => false
def chkI (N : List Str) : IR → Scope → Bool → Expr → Expr → Bool
  | .itV a, sc, t, _, e => chkE N a sc t e
  | .itm a, sc, t, tg, .Call (.Attribute x m apos) [] [] pos => isTupE tg && decide (m = ("items" : Str)) && !isCall x && (apos.endLine == pos.line) && chkE N a sc t x
  | .ien a, sc, t, tg, .Call (.Name y _) [e] [] _ => isTupE tg && decide (y = ("enumerate" : Str)) && glB sc y && !isStar e && chkE N a sc t e
  | .ind f _ as, sc, t, _, e => match f N sc t e with
    | some es => chkA N as sc t es
    | none => false
  | .itR1 a, sc, t, _, .Call (.Name y _) [e] [] _ => decide (y = ("range" : Str)) && glB sc y && !isStar e && chkE N a sc t e
  | .itR2 a b, sc, t, _, .Call (.Name y _) [e, e'] [] _ => decide (y = ("range" : Str)) && glB sc y && !isStar e && !isStar e' && chkE N a sc t e && chkE N b sc t e'
  | _, _, _, _, _ => false
def chkG (N : List Str) : IR → Scope → Bool → Expr → Bool
  | .gN i, sc, t, .Name x _ => decide (N[i]? = some x) && locB sc t x
  | .gT n gs, sc, t, .Tuple es _ _ => decide (es.length = n) && chkGs N gs sc t es
  | .gSub o i, sc, t, .Subscript x y _ => !isSlice y && chkE N o sc t x && chkE N i sc t y
  | _, _, _, _ => false
def chkGs (N : List Str) : IR → Scope → Bool → List Expr → Bool
  | .nil, _, _, [] => true
  | .cons a r, sc, t, e :: es => !isStar e && chkG N a sc t e && chkGs N r sc t es
  | _, _, _, _ => false
end
mutual
def chkS (N : List Str) : IR → Scope → Stmt → Bool
  | .asg g e, sc, .Assign [t] v _ => (!(isSeqE t && isSeqE v) || cellT sc t) && !isComp v && chkG N g sc true t && chkE N e sc true v
  | .asc i (.cpr own g it c e), sc, .Assign [.Name y py] (.ListComp elt [⟨tg, iter, ifs, as⟩] scope pos) _ => decide (as = 0) && decide (N[i]? = some y) && decide (sc.names.lookup y = some .local) && (py.line == pos.line) && !(scope.names.any fun (n, k) => n == y && (k == .local || k == .cell)) &&
      blkC N sc scope own && (slotsG g).all (fun j => decide (j ∈ own.map (·.2))) && !isSetE iter && chkI N it sc true tg iter && (chkG N g (relS scope sc) false tg || chkN N g scope tg) && chkTs c ifs (fun e => chkT N c (relS scope sc) false e) && chkE N e (relS scope sc) false elt
  | .exp e, sc, .Expr v _ => !isComp v && chkE N e sc true v
  | .ret e, sc, .Return (some v) _ => chkE N e sc true v
  | .ret0, _, .Return none _ => true
  | .ifS t a b, sc, .If c x y _ => chkT N t sc true c && chkB N a sc x && chkB N b sc y
  | .whl t b, sc, .While c x [] _ => chkT N t sc true c && chkB N b sc x
  | .fr g it b, sc, .For tg iter x [] _ => !isSetE iter && chkI N it sc true tg iter && chkG N g sc true tg && chkB N b sc x
  | .brk, _, .Break _ => true
  | .cnt, _, .Continue _ => true
  | .pas, _, .Pass _ => true
  | .nev, _, _ => true
  | .lkS _ a, sc, st => chkS N a sc st
  | .sno f _ as, sc, st => match f N sc st with
    | some es => chkA N as sc true es
    | none => false
  | _, _, _ => false
def chkB (N : List Str) : IR → Scope → List Stmt → Bool
  | .nil, _, [] => true
  | .seq s r, sc, st :: rest => chkS N s sc st && chkB N r sc rest
  | _, _, _ => false
end
end M
end
section
set_option autoImplicit true
namespace M
open PySem PySem.Spec PyProof.Rows L2
def GlC (B : Bs) (x : Str) (d : D) : Prop := ∃ u v, B.mg x = some u ∧ RelV v u ∧ ∀ w, Rep B.K w d v
def BtC (B : Bs) (n : String) : Prop := B.mg (Str.ofString n) = none ∧ bootBuiltins (Str.ofString n) = some (.type n) ∧ Str.ofString n ≠ "__name__"
def MtC (B : Bs) (T : List Addr) (cls : Nat → Addr) (k : Nat) (Ty id : String) (m : Str) (sp : Spec) : Prop :=
  PlainAttrs Ty ∧ Slot Ty m id ∧ typeOf (.builtin id) = pure (.type "method_descriptor") ∧
    ∀ X : Cx, Cx.bs X = B → X.calm = true → Room k X.A → MtR X id fun x vs H Q => ∃ S d ds QM, S.H = H ∧ Rl (wd X T cls) S ∧ Rep X.K S.vw d x ∧ Reps X.K S.vw ds vs ∧ sp (d :: ds) S.μ QM (fun _ _ => False) ∧ After (wd X T cls) S QM Q
def MeC (B : Bs) (T : List Addr) (cls : Nat → Addr) (k : Nat) (c : Nat) (m : Str) (sp : Spec) : Prop :=
  Cls B.K (cls c) ∧ ∃ (f : Addr) (fd : FuncData) (ps : List Str) (sp' : Spec) (dd : List D) (dvs : List V) (dus : List Value), Meth B.K (cls c) m f ∧
    FnOk B.P B.w B.K B.mg B.base (L2N.CX B.P B.w) k f fd ps (lift ⟨B.K, T, cls⟩ sp') ∧ Binds B.K fd ps dus ∧ Vals dvs dus ∧ (∀ w, Reps B.K w dd dvs) ∧ ∀ ds μ Q E, sp ds μ Q E → sp' (ds ++ dd) μ Q E
def CodeOk (X : Cx) (T : List Addr) : Prop := ∃ c P, X.env.code = .ref c ∧ GxR.TabB X.base X.mg c P ∧ P ∈ T
structure Gd (X : Cx) (top : Bool) (k : Nat) : Prop where
  calm : X.calm = true
  nd : X.N.Nodup
  room : Room k X.A
  fn : top = true → ∀ x, X.env.scope.names.lookup x = some .cell → X.fn x = true
  hs : top = true → X.stack = X.env :: X.outer ∧ X.env.frame = some X.env.locals
def lamK (sc : Scope) : Bool := decide (sc.names.lookup ("entry" : Str) = some .local) && decide (sc.names.lookup ("store" : Str) = some .local)
def LamOk (X : Cx) (cls : Nat → Addr) : Prop := lamK X.env.scope = true → X.env.qual ++ "<lambda>" = lamQ ∧ ∃ c, X.env.code = .ref c ∧ LamX.TabB X.base X.mg c (cls 1000)
structure Sd (B : Bs) (T : List Addr) (cls : Nat → Addr) (k : Nat) (X : Cx) (top : Bool) (cd : Prop) (Wx : WX) : Prop where
  bs : Cx.bs X = B
  g : Gd X top k
  co : cd → CodeOk X T
  tk : L2N.Takes X Wx
  ct : top = false → cd → False
  kind : top = true → X.env.scope.kind = .function
  lm : top = true → LamOk X cls
  -- an odd level: no repr is under way
  gu : k % 2 = 1 → X.A.guards = some []
def PEs (X : Cx) (W : Wd) (Wx : WX) : IR → List Expr → Prop
  | .nil, es => es = []
  | .cons a r, es => match es with
    | e :: es => isStar e = false ∧ PE X e (DE W Wx a) ∧ PEs X W Wx r es
    | [] => False
  | _, _ => False
def NodOk (B : Bs) (T : List Addr) (cls : Nat → Addr) (k : Nat) (cd : Prop) (f : XF) (ev : EvE) : Prop :=
  ∀ (X : Cx) (top : Bool) (Wx : WX) (e : Expr) (es : List Expr) (as : IR), Sd B T cls k X top cd Wx → f X.N X.env.scope top e = some es → PEs X (wd X T cls) Wx as es → PE X e (DE (wd X T cls) Wx (.nod f ev as))
def TndOk (B : Bs) (T : List Addr) (cls : Nat → Addr) (k : Nat) (cd : Prop) (f : XF) (ev : EvT) : Prop :=
  ∀ (X : Cx) (top : Bool) (Wx : WX) (e : Expr) (es : List Expr) (as : IR), Sd B T cls k X top cd Wx → f X.N X.env.scope top e = some es → PEs X (wd X T cls) Wx as es → PT X e (DT (wd X T cls) Wx (.tnd f ev as))
def IndOk (B : Bs) (T : List Addr) (cls : Nat → Addr) (k : Nat) (cd : Prop) (f : XF) (ev : EvI) : Prop :=
  ∀ (X : Cx) (top : Bool) (Wx : WX) (tg e : Expr) (es : List Expr) (as : IR), Sd B T cls k X top cd Wx → f X.N X.env.scope top e = some es → PEs X (wd X T cls) Wx as es → PI X tg e (DI (wd X T cls) Wx (.ind f ev as))
def SnoOk (B : Bs) (T : List Addr) (cls : Nat → Addr) (k : Nat) (cd : Prop) (f : SF) (ev : EvS) : Prop :=
  ∀ (X : Cx) (Wx : WX) (st : Stmt) (es : List Expr) (as : IR), Sd B T cls k X true cd Wx → f X.N X.env.scope st = some es → PEs X (wd X T cls) Wx as es → PS X st (DS (wd X T cls) Wx (.sno f ev as))
def okE (B : Bs) (T : List Addr) (cls : Nat → Addr) (k : Nat) : Prop → IR → Prop
  | _, .glb x d => GlC B x d
  | _, .bty n => BtC B n
  | cd, .cal x sp as => CalC B T cls k x sp ∧ okE B T cls k cd as
  | cd, .bme Ty id m sp o as => MtC B T cls k Ty id m sp ∧ okE B T cls k cd o ∧ okE B T cls k cd as
  | cd, .mcl m tbl o as => (∀ c sp, tbl.lookup c = some sp → MeC B T cls k c m sp) ∧ okE B T cls k cd o ∧ okE B T cls k cd as
  | cd, .nod f ev as => NodOk B T cls k cd f ev ∧ okE B T cls k cd as
  | cd, .tnd f ev as => TndOk B T cls k cd f ev ∧ okE B T cls k cd as
  | cd, .ind f ev as => IndOk B T cls k cd f ev ∧ okE B T cls k cd as
  | cd, .sno f ev as => SnoOk B T cls k cd f ev ∧ okE B T cls k cd as
  | cd, .itR1 a => B.mg "range" = none ∧ okE B T cls k cd a
  | cd, .itR2 a b => B.mg "range" = none ∧ okE B T cls k cd a ∧ okE B T cls k cd b
  | cd, .cpr _ g it t e => okE B T cls k cd it ∧ okE B T cls k False g ∧ okE B T cls k False t ∧ okE B T cls k False e
  | cd, .dcp _ g it ke ve => okE B T cls k cd it ∧ okE B T cls k False g ∧ okE B T cls k False ke ∧ okE B T cls k False ve
  | cd, .bin _ a b => okE B T cls k cd a ∧ okE B T cls k cd b
  | cd, .neg a => okE B T cls k cd a
  | cd, .cmp _ a b => okE B T cls k cd a ∧ okE B T cls k cd b
  | cd, .chn _ _ a b c => okE B T cls k cd a ∧ okE B T cls k cd b ∧ okE B T cls k cd c
  | cd, .one a => okE B T cls k cd a
  | cd, .andV a b => okE B T cls k cd a ∧ okE B T cls k cd b
  | cd, .orV a b => okE B T cls k cd a ∧ okE B T cls k cd b
  | cd, .notV a => okE B T cls k cd a
  | cd, .ife a b c => okE B T cls k cd a ∧ okE B T cls k cd b ∧ okE B T cls k cd c
  | cd, .ix a b => okE B T cls k cd a ∧ okE B T cls k cd b
  | cd, .sl a b c => okE B T cls k cd a ∧ okE B T cls k cd b ∧ okE B T cls k cd c
  | cd, .tupC a => okE B T cls k cd a
  | cd, .lstC a => okE B T cls k cd a
  | cd, .lstM a => okE B T cls k cd a
  | cd, .cons a b => okE B T cls k cd a ∧ okE B T cls k cd b
  | cd, .frz a => okE B T cls k cd a
  | cd, .lkE _ a => okE B T cls k cd a
  | cd, .lkS _ a => okE B T cls k cd a
  | cd, .itm a => okE B T cls k cd a
  | cd, .ien a => B.mg "enumerate" = none ∧ okE B T cls k cd a
  | cd, .tV a => okE B T cls k cd a
  | cd, .tNot a => okE B T cls k cd a
  | cd, .tOne a => okE B T cls k cd a
  | cd, .tAnd a b => okE B T cls k cd a ∧ okE B T cls k cd b
  | cd, .tOr a b => okE B T cls k cd a ∧ okE B T cls k cd b
  | cd, .itV a => okE B T cls k cd a
  | cd, .gT _ a => okE B T cls k cd a
  | cd, .gSub a b => okE B T cls k cd a ∧ okE B T cls k cd b
  | cd, .asg a b => okE B T cls k cd a ∧ okE B T cls k cd b
  | cd, .asc _ b => okE B T cls k cd b
  | cd, .exp a => okE B T cls k cd a
  | cd, .ret a => okE B T cls k cd a
  | cd, .ifS a b c => okE B T cls k cd a ∧ okE B T cls k cd b ∧ okE B T cls k cd c
  | cd, .whl a b => okE B T cls k cd a ∧ okE B T cls k cd b
  | cd, .fr a b c => okE B T cls k cd a ∧ okE B T cls k cd b ∧ okE B T cls k cd c
  | cd, .seq a b => okE B T cls k cd a ∧ okE B T cls k cd b
  | _, _ => True
section
variable {X : Cx} {T : List Addr} {cls : Nat → Addr} {Wx : WX}
theorem gl_of {x : Str} (h : glB X.env.scope x = true) : Gl X x := of_decide_eq_true (p := X.env.scope.names.lookup x = some .globalImplicit) h
theorem vis_of {sc : Scope} {x : Str} (h : visB sc x = true) : Vis sc x := by
  unfold visB at h
  split at h <;> first | (rename_i e; first | exact .inl e | exact .inr (.inl e) | exact .inr (.inr e)) | cases h
theorem okN {x : Str} (h : okName x = true) : (x == ("__debug__" : Str)) = false ∧ (x == ("__classdict__" : Str)) = false := by
  unfold okName at h
  rw [Bool.and_eq_true, Bool.not_eq_true', Bool.not_eq_true'] at h
  exact h
theorem star_of {e : Expr} {es : List Expr} {env : PySem.Env} (h : isStar e = false) : starEach (e :: es) env = (false, eval e env) :: starEach es env := by
  cases e <;> first | rfl | cases (show true = false from h)
theorem back_of {pos : Pos} {env : PySem.Env} : ∀ {es : List Expr}, (es.all fun e => !isStar e) = true → (backTo pos (starEach es env)).any (·.1) = false
  | [], _ => rfl
  | e :: es, h => by
    rw [List.all_cons, Bool.and_eq_true, Bool.not_eq_true'] at h
    rw [star_of h.1]
    show (false || (backTo pos (starEach es env)).any (·.1)) = false
    rw [back_of h.2]
    rfl
theorem backAll_of {pos : Pos} {env : PySem.Env} : ∀ {es : List Expr}, (es.all fun e => !isStar e) = true → (backTo pos (starEach es env)).all (fun x => !x.1) = true
  | [], _ => rfl
  | e :: es, h => by
    rw [List.all_cons, Bool.and_eq_true, Bool.not_eq_true'] at h
    rw [star_of h.1]
    show (true && (backTo pos (starEach es env)).all (fun x => !x.1)) = true
    rw [backAll_of h.2]
    rfl
theorem plainIx_of {e : Expr} (h : isSlice e = false) : PlainIx e := by
  intro o i
  cases e <;> first | rfl | cases (show true = false from h)
theorem set_of {e : Expr} {env : PySem.Env} (h : isSetE e = false) : ∀ x, foldedSetIterable e env x = pure x := by
  intro x
  cases e <;> first | rfl | cases (show true = false from h)
theorem plainT_of {e : Expr} {env : PySem.Env} (h : isPlainT e = true) : ∀ whole, isTrue e env whole = (do let v ← whole; standAt e.pos; holding [v] (truthy v)) := by
  intro w
  cases e <;> first | rfl | (cases (show false = true from h)) | skip
  rename_i op x pos
  cases op <;> first | rfl | cases (show false = true from h)
theorem swap_of {e : Expr} {t : Option Expr} {n : Nat} {env : PySem.Env} (h : isComp e = false) : swapsWith e t n env = pure false := by
  cases e <;> first | rfl | cases (show true = false from h)
theorem stores_of {t e : Expr} {env : PySem.Env} (h : (isSeqE t && isSeqE e) = false) : swappedStores [t] e env = pure none := by
  cases t <;> first | rfl | (cases e <;> first | rfl | cases (show true = false from h))
theorem stores_cell {x y : Str} {px py p : Pos} {k : Nat} {v : Expr} {env : PySem.Env} (h : env.scope.names.lookup x = some .cell) : swappedStores [.Tuple [.Name x px, .Name y py] k p] v env = pure none := by
  unfold swappedStores
  cases v <;> first | rfl | skip
  rename_i vs k2 p2
  have key : ∀ f : Expr → Option Str, f (.Name x px) = none → ([Expr.Name x px, Expr.Name y py].filterMap f).length ≠ 2 := fun f hf => by
    rw [List.filterMap_cons_none hf]
    have := List.length_filterMap_le f [Expr.Name y py]
    rw [List.length_singleton] at this
    omega
  show (if _ then _ else _) = _
  split
  · rfl
  · split
    · rfl
    · rw [if_pos]
      rw [Bool.or_eq_true]
      left
      rw [bne_iff_ne]
      exact key _ (by simp [PySem.Env.kindOf, h])
theorem stores_or {t e : Expr} {env : PySem.Env} (h : (!(isSeqE t && isSeqE e) || cellT env.scope t) = true) : swappedStores [t] e env = pure none := by
  rw [Bool.or_eq_true] at h
  rcases h with h | h
  · exact stores_of (by rw [Bool.not_eq_true'] at h; exact h)
  · unfold cellT at h
    split at h
    · exact stores_cell (of_decide_eq_true h)
    · cases h
theorem assignEach_of {e : Expr} {es : List Expr} {env : PySem.Env} (h : isStar e = false) : assignEach (e :: es) env = (false, assign e env) :: assignEach es env := by
  cases e <;> first | rfl | cases (show true = false from h)
theorem assignSub {a b : Expr} {pos : Pos} {env : PySem.Env} (h : isSlice b = false) : ∀ v, assign (.Subscript a b pos) env v = (do
      let ov ← holding [v] (eval a env)
      let iv ← holding [v, ov] (eval b env)
      standAt pos
      holding [v, ov, iv] (setItem ov iv v)
      release [v, ov, iv] []) := by
  intro v
  cases b <;> first | rfl | cases (show true = false from h)
theorem base_of {o : Expr} {m : Str} {env : PySem.Env} (h : isCall o = false) : attributeBase o m env (eval o env) = eval o env := by
  cases o <;> first | rfl | cases (show true = false from h)
theorem tyD_rep {W : Wd} {S : Ss} {d : D} {v : V} {Ty : String} (R : Rl W S) (r : Rep W.K S.vw d v) (h : tyD Ty d S.μ = true) : tyV W.K Ty v S.H := by
  unfold tyD at h
  split at h
  · have e : v = _ := r
    subst e
    exact (show Ty = "str" from beq_iff_eq.mp h)
  · obtain ⟨a, xs, e, g, _⟩ := r
    subst e
    exact .inl ⟨beq_iff_eq.mp h, xs, SqL.of (hid_ex g)⟩
  · obtain ⟨a, xs, e, g, _⟩ := r
    subst e
    exact .inl ⟨beq_iff_eq.mp h, xs, hid_ext.sql g⟩
  · obtain ⟨_, e⟩ := r
    subst e
    split at h
    · rename_i c hc
      obtain ⟨xs, e1, _⟩ := R.ok _ _ hc
      exact .inl ⟨beq_iff_eq.mp h, xs, SqL.of e1⟩
    · rename_i c hc
      obtain ⟨xs, e1, _⟩ := R.ok _ _ hc
      exact .inr (.inr (.inl ⟨beq_iff_eq.mp h, .inl ⟨xs, e1⟩⟩))
    · cases h
  · cases h
theorem d_bme {o e : Expr} {es : List Expr} {co ca : IR} {k : Nat} {Ty id : String} {m : Str} {sp : Spec} {apos pos : Pos} (hr : Room k X.A) (hc : X.calm = true) (h : MtC (Cx.bs X) T cls k Ty id m sp) (ho : PE X o (DE (wd X T cls) Wx co)) (ha : PA X (e :: es) (DA (wd X T cls) Wx ca))
    (hno : isCall o = false) (hst : ((e :: es).all fun e => !isStar e) = true) (hlen : (e :: es).length < 30) (hline : (apos.endLine == pos.line) = true) : PE X (.Call (.Attribute o m apos) (e :: es) [] pos) (DE (wd X T cls) Wx (.bme Ty id m sp co ca)) := by
  obtain ⟨pa, sl, hty, hm⟩ := h
  have hst' := hst
  rw [List.all_cons, Bool.and_eq_true, Bool.not_eq_true'] at hst'
  refine PE.weak (pe_bm pa sl hty (hm X rfl hc hr) ho ha (base_of hno) ?_ hline (star_of hst'.1) (back_of hst'.2)) fun σ H Q h => ?_
  · rw [backAll_of hst, Bool.true_and]
    show (true && decide ((e :: es).length + 0 + 0 < 30)) = true
    rw [Bool.true_and]
    exact decide_eq_true hlen
  · obtain ⟨S, δ, QM, QX, rfl, R, hE, hw, hq, hx⟩ := h
    simp only [wpE] at hw
    refine ⟨S, δ, _, QX, rfl, R, hE, hw, fun S1 d1 v1 l1 R1 r1 w1 => ⟨tyD_rep R1 r1 w1.1, ?_⟩, hx⟩
    exact ⟨S1, δ, _, QX, rfl, R1, hE.mono l1.1, w1.2, fun S2 ds vs l2 R2 r2 w2 => ⟨S2, d1, ds, QM, rfl, R2, r1.mono l2.1, r2, w2, hq.le (l1.trans l2)⟩, hx.le l1⟩
theorem own_call {M : Model} {A : Around} {env : PySem.Env} {o : Expr} {name : Str} {apos pos : Pos} {args : List Expr} {kws : List Keyword} {Q : Value → Shared → Prop} {E : Value → Shared → Prop} {s : Shared}
    (hb : attributeBase o name env (eval o env) = eval o env) (hform : methodCallForm (args.length + kws.length) (backTo pos (starEach args env)) (backToKw pos (keywordEach kws env)) = true) (hl : (apos.endLine == pos.line) = true)
    (h : wpAny M A (eval o env) (fun ov s1 => ∀ pl : Sem Bool, wpAny M A (getMethod ov name pl) (fun fx s2 => wpAny M A (callWith pos fx.1 fx.2 (backTo pos (starEach args env)) (backToKw pos (keywordEach kws env))) Q E s2) E s1) E s) :
    wpAny M A (eval (.Call (.Attribute o name apos) args kws pos) env) Q E s := by
  have hp : methodCallPos true o env apos pos = pure pos := by unfold methodCallPos; simp [hl]
  rw [arm_eval_Call, hb]
  refine wpAny_bind (wpAny_mono h (fun ov s1 h1 => ?_) fun _ _ e => e)
  refine wpAny_bind (wpAny_standAt ?_)
  unfold methodCall
  rw [hform]
  refine wpAny_bind (wpAny_holding (wpAny_mono (h1 _) (fun fx s2 h2 => ?_) fun _ _ e => e))
  rw [hp]
  exact wpAny_bind (wpAny_pure h2)
theorem insD_eq {d : D} {μ : Sto} {k c : Nat} {fs : List (Str × D)} (h : insD d μ = some (k, c, fs)) : d = .obj k ∧ μ.cell k = some (.ins c fs) := by
  unfold insD at h
  split at h
  · split at h
    · rename_i e
      cases h
      exact ⟨rfl, e⟩
    · cases h
  · cases h
theorem repP_lookup {K : PySem.W.Frag} {w : Vw} {f : Str} : ∀ {fs : List (Str × D)} {es : List (Str × V)}, RepP K w fs es → match fs.lookup f with
    | some d => ∃ v, es.lookup f = some v ∧ Rep K w d v
    | none => es.lookup f = none
  | [], es, h => by
    have e : es = [] := h
    subst e
    rfl
  | (g, d) :: fs, es, h => by
    obtain ⟨x, r, rfl, h1, h2⟩ := h
    rw [List.lookup_cons, List.lookup_cons]
    cases f == g with
    | true => exact ⟨x, rfl, h1⟩
    | false => exact repP_lookup h2
theorem metOf_eq {m : Str} {tbl : List (Nat × Spec)} {d : D} {μ : Sto} {sp : Spec} (h : metOf m tbl d μ = some sp) : ∃ k c fs, d = .obj k ∧ μ.cell k = some (.ins c fs) ∧ fs.lookup m = none ∧ tbl.lookup c = some sp := by
  unfold metOf at h
  split at h
  · rename_i j c fs e
    obtain ⟨e1, e2⟩ := insD_eq e
    split at h
    · rename_i e3
      exact ⟨j, c, fs, e1, e2, e3, h⟩
    · cases h
  · cases h
theorem Gd.blk {k : Nat} {top : Bool} (G : Gd X top k) (s : Shared) (H : Hp) (scope : Scope) (ce : PySem.Env) (fp : List Addr) : Gd (X.blk s H scope ce fp) false k := ⟨G.calm, G.nd, G.room, (fun h => by cases h), fun h => by cases h⟩
theorem takesF {X : Cx} : L2N.Takes X W0 := fun _ _ x => by
  obtain ⟨_, _, _, _, _, _, _, _, _, _, _, _, _, _, _, _, _, h⟩ := x
end
end M
end
section
namespace M
open PySem PySem.Spec PyProof.Rows L2
def EltQ (X : Cx) (scope : Scope) (cl : List (Str × Addr)) (x : Str) (elt : Expr) (Pi : Nat → Value → Prop) (pb : Nat → Bool) (Gk : Heap → Prop) : Prop :=
  ∀ (ce : PySem.Env) (A1 : Around) (E1 : Value → Shared → Prop) (i : Nat) (v : Value) (s2 : Shared) (m2 : Str → Option Value), A1.handled = none → ce.scope = scope → ce.globals = mainGlobals → ce.cells = cl → Pi i v → s2.heap.Ns ce.locals m2 → m2 x = some v → Gk s2.heap →
    wpAny (model X.prog X.w) A1 (eval elt ce) (fun y s3 => y = .bool (pb i) ∧ Keeps s2 s3) E1 s2
structure Begun (X : Cx) (pins : List (Addr × Obj)) (σ : L2.St) (P : Addr) (scope : Scope) (x : Str) (elt : Expr) (s1 : Shared) (o : Obj) (H1 : Hp) (n : Nat) (pb : Nat → Bool) : Prop where
  inv : L2.Inv X pins σ H1 s1
  tab : GxR.TabG H1 P
  wk : ∃ (Pi : Nat → Value → Prop) (St : Nat → Heap → Prop) (Gk : Heap → Prop), (∀ A1 : Around, A1.handled = none → Walks X.prog X.w A1 s1.heap.objs.size [s1.heap.objs.size] [s1.heap.objs.size] n Pi St) ∧ St 0 (s1.heap.push o) ∧
    EltQ X scope (cloFrom X.env.cells scope.names []) x elt Pi pb Gk ∧ ∀ h', (∀ b u, b ≠ P → s1.heap.get? b = some u → h'.get? b = some u) → Gk h'
section
variable {X : Cx} {pins : List (Addr × Obj)} {σ : L2.St} {s : Shared} {c P : Addr} {elt iter : Expr} {x : Str} {px p pos gpos : Pos} {scope : Scope} {k : Nat}
theorem all_gen {Q : VK} {H : Hp} (I0 : L2.Inv X pins σ H s) (hr : Room k X.A) (hg : Gl X "all") (hm : X.mg "all" = none) (TB : GxR.TabB X.base X.mg c P) (hcode : X.env.code = .ref c) (S : GxR.GenS X.env scope x) (hs : ∀ v, genFold iter X.env v = pure v)
    (h : ∀ Q0 : Value → Shared → Prop, (∀ s1 o H1 n pb, Begun X pins σ P scope x elt s1 o H1 n pb → (∀ H2, GxR.Tabbed P H1 H2 → Q (.bl ((List.range n).all pb)) H2) → Q0 (.ref s1.heap.objs.size) { s1 with heap := s1.heap.push o }) →
      wpAny (model X.prog X.w) X.A (eval iter X.env) (fun v s2 => wpAny (model X.prog X.w) X.A (pyIter v) Q0 X.xe s2) X.xe s) :
    wpAny (model X.prog X.w) X.A (eval (.Call (.Name "all" p) [.GeneratorExp elt [⟨.Name x px, iter, [], 0⟩] scope gpos] [] pos) X.env) (EP X pins σ Q) X.xe s := by
  have e0 : starEach [.GeneratorExp elt [⟨.Name x px, iter, [], 0⟩] scope gpos] X.env = (false, eval (.GeneratorExp elt [⟨.Name x px, iter, [], 0⟩] scope gpos) X.env) :: starEach [] X.env := rfl
  refine wpAny_Call_Name_kw (ld_blt I0 hg hm (show bootBuiltins "all" = some (.builtin "all") by decide +kernel) (PyProof.Rows.callWith_builtin1 ?_ e0 rfl))
  rw [e0]
  show wpAny _ _ (spliced ((false, eval (.GeneratorExp elt [⟨.Name x px, iter, [], 0⟩] scope gpos) X.env) :: backTo pos (starEach [] X.env))) _ _ s
  refine Calls.spliced_cons ?_
  refine wpAny_GeneratorExp_walksQ hr.hd S.co (closure_ok S.free) S.cell S.dot S.loc S.kind (by have := hr.dp; omega) ?_ hs
  refine thn (h _ (fun s1 o H1 n pb B hQ => ?_)) fun _ _ z => z
  obtain ⟨I1, ⟨ps, hP, ht⟩, Pi, St, Gk, W, hst, hel, hG⟩ := B
  have tabAt : s1.heap.get? P = some { cls := .none, data := .fields ps } := I1.hok P _ hP
  have ltP : P < s1.heap.objs.size := Heap.lt_size tabAt
  have tabAt2 : (s1.heap.push o).get? P = some { cls := .none, data := .fields ps } := Heap.get?_push_of_some _ tabAt
  have cd : PySem.W.CodeHd (s1.heap.push o) c P := TB.code.keeps fun b u e => Heap.get?_push_of_some _ (I1.bk b u e)
  have lim : (s1.heap.push o).NoLimit := I1.nolimit.push o
  have szO : (s1.heap.push o).objs.size = s1.heap.objs.size + 1 := Heap.size_push ..
  refine ⟨lim, ?_⟩
  -- whatever code object the expression gets: the table may have grown
  have go : ∀ (code : Value) (h3 : Heap) (tk : Nat) (ps3 : Array Value), Heap.ExtBut P (s1.heap.push o) h3 → (s1.heap.push o).objs.size ≤ h3.objs.size → h3.get? P = some { cls := .none, data := .fields ps3 } → (∃ more, ps3 = ps ++ more) → TriplesOk ps3.toList →
      wpAny (model X.prog X.w) X.A (builtinsFor X.env.globals X.env.builtins) (fun bi s4 =>
        ∃ (Ia : Addr) (fp wr : List Addr) (n0 : Nat) (Pf : Nat → Value → Prop) (St0 : Nat → Heap → Prop) (pz : Nat → Bool) (F : Nat → Value → Prop), Value.ref s1.heap.objs.size = .ref Ia ∧ (∀ A1 : Around, A1.handled = none → Walks X.prog X.w A1 Ia fp wr n0 Pf St0) ∧ St0 0 s4.heap ∧ (∀ b ∈ fp, b < s4.heap.objs.size) ∧ s4.heap.NoLimit ∧ cStatics ∉ wr ∧
          (∀ href : Heap, (∀ b u, s4.heap.get? b = some u → href.get? b = some u) →
            QuietGen X.prog X.w (genEnv scope (cloFrom X.env.cells scope.names []) s4.heap.objs.size code bi X.env) x [] elt (List.range s4.heap.objs.size) wr Pf pz F href) ∧
          (∀ a h5 tk gs, gs.bare = true → s4.heap.objs.size < a → h5.objs.size = a + 1 → (∀ b u, s4.heap.get? b = some u → h5.get? b = some u) →
            WalksS X.prog X.w X.A.in4 a (a :: s4.heap.objs.size :: List.range s4.heap.objs.size) (s4.heap.objs.size :: wr) (GenOnlyQ s4.gens.size) (passing pz n0 0).length
              (fun j y => ∃ i, (passing pz n0 0)[j]? = some i ∧ F i y) (GenAt X.prog X.w X.A.in4 a s4.gens.size s4.heap.objs.size (List.range s4.heap.objs.size) wr pz n0 F) →
            GenAt X.prog X.w X.A.in4 a s4.gens.size s4.heap.objs.size (List.range s4.heap.objs.size) wr pz n0 F 0 { s4 with gens := s4.gens.push gs, toks := tk, heap := h5 } →
            wpAny (model X.prog X.w) X.A (spliced (backTo pos (starEach [] X.env))) (fun vs s2 => wpAny (model X.prog X.w) X.A (call (Value.builtin "all") (Value.ref a :: vs)) (EP X pins σ Q) X.xe s2) X.xe { s4 with gens := s4.gens.push gs, toks := tk, heap := h5 })) X.xe { s1 with heap := h3, toks := tk } := by
    intro code h3 tk ps3 hx hsz hP3 hmore ht3
    obtain ⟨bm, ob, e1, e2, e3, e4, e5, e6, e7, e8⟩ := TB.bm
    have stP : cStatics ≠ P := fun e => by
      obtain ⟨_, hns, _⟩ := I1.nolimit
      obtain ⟨o', es, ep, ho, hd, _⟩ := hns
      rw [e, tabAt] at ho
      cases ho
      cases hd
    have stl : cStatics < s1.heap.objs.size := let ⟨_, hns, _⟩ := I1.nolimit; hns.lt
    have keep3 : ∀ b u, b ≠ P → s1.heap.get? b = some u → h3.get? b = some u := fun b u hb e => hx b u hb (Heap.get?_push_of_some _ e)
    have hle : s1.heap.objs.size ≤ h3.objs.size := by
      rw [szO] at hsz
      exact Nat.le_of_succ_le hsz
    have neO : s1.heap.objs.size ≠ P := fun z => Nat.ne_of_lt ltP z.symm
    refine wpAny_builtinsFor (m := X.mg) (by rw [I1.ok.glob]; exact ((I1.mod.glob.keeps I1.bk).push o).extBut hx TB.gP) e1 e2 (keep3 _ _ e4 (I1.bk _ _ e5)) e6 e7 e8 ?_
    refine ⟨s1.heap.objs.size, [s1.heap.objs.size], [s1.heap.objs.size], n, Pi, St, (fun _ => true), (fun i y => y = .bool (pb i)), rfl, W, ?_, ?_, lim.extBut hx stP, ?_, ?_, ?_⟩
    · refine (W X.A hr.hd).frame _ _ _ hst fun b hb u e => hx b u (fun z => ?_) e
      rw [List.mem_singleton] at hb
      exact neO (hb.symm.trans z)
    · intro b hb
      rw [List.mem_singleton] at hb
      rw [hb]
      show s1.heap.objs.size < h3.objs.size
      omega
    · intro z
      rw [List.mem_singleton] at z
      exact Nat.ne_of_lt stl z
    · intro href hk
      refine ⟨fun A1 E1 i v s2 m2 hA hPv hn hm hkk => ?_, fun A1 E1 i v s2 m2 hA hPv hp hn hm hkk => ?_⟩
      · simp only [List.forIn_nil]
        exact wpAny_pure ⟨rfl, GxR.keeps_refl _⟩
      · have kept : ∀ b u, b ≠ P → s1.heap.get? b = some u → s2.heap.get? b = some u := fun b u hb e => by
          have hl := Heap.lt_size e
          refine hkk b (List.mem_range.mpr ?_) (fun z => ?_) u (hk b u (keep3 b u hb e))
          · exact Nat.lt_of_lt_of_le hl hle
          · rw [List.mem_singleton] at z
            exact Nat.ne_of_lt hl z
        exact hel _ A1 E1 i v s2 m2 hA rfl I1.ok.glob rfl hPv hn hm (hG _ kept)
    · intro g h5 tk5 gs hgb hag hsz5 hk5 W5 hat
      simp only [GxR.passing_true, List.length_range] at W5
      refine Calls.spliced_nil (call_all_walkS ?_)
      have W6 := W5.in4_1
      refine W6.self 0 _ _ _ hat ⟨g, _, _, _, _, _, _, pb, rfl, W6, hat, ?_, fun s' hm => ?_⟩
      · intro j y sj Qj Ej hy hQj
        obtain ⟨i, hij, rfl⟩ := hy
        obtain ⟨hj, ej⟩ := List.getElem?_eq_some_iff.mp hij
        rw [List.getElem_range] at ej
        subst ej
        exact wpAny_truthy_bool hQj
      · obtain ⟨more, em⟩ := hmore
        have nwr : ∀ b u, s1.heap.get? b = some u → b ∉ h3.objs.size :: [s1.heap.objs.size] := fun b u e hb => by
          have hl := Heap.lt_size e
          rcases List.mem_cons.mp hb with z | z
          · have z : b = h3.objs.size := z
            rw [z] at hl
            exact absurd (Nat.lt_of_lt_of_le hl hle) (Nat.lt_irrefl _)
          · rw [List.mem_singleton] at z
            exact Nat.ne_of_lt hl z
        have J := GxR.inv_tab (more := more) (h' := s'.heap) (g' := s'.gens) (d' := s'.drawn) (t' := s'.toks) I1 hP (fun b u hb e => hm.heap b u (nwr b u e) (hk5 b u (keep3 b u hb e)))
          (by rw [← em]; exact hm.heap P _ (nwr P _ tabAt) (hk5 P _ hP3)) (AllBare.movedS (I1.bare.push hgb) hm)
        rw [GxR.sh_eta s1 s' hm.os] at J
        exact ⟨.bl _, _, J, rfl, hQ _ ⟨⟨ps ++ more, upd_same, by rw [← em]; exact ht3⟩, fun b hb => upd_ne hb⟩⟩
  cases hf : codeAmong gpos ps.toList with
  | none =>
    refine wpAny_genexprCodeX hcode (cd.code tabAt2 ht) (cd.tab tabAt2) hf fun c1 h1 tk hx hge hlt hco _ htab _ => ?_
    obtain ⟨o1, vs, f1, tf, fl, tg, inF, tx, tt, op, _, _, _, _, _, _, _, _, _, htr, _⟩ := hco
    exact go _ h1 tk _ hx (Nat.le_trans hge (Nat.le_of_lt hlt)) htab.2 ⟨_, rfl⟩ htr
  | some cv =>
    refine wpAny_genexprCode_hit hcode (cd.code tabAt2 ht) hf ?_
    exact go cv (s1.heap.push o) s1.toks ps (Heap.ExtBut.refl _ _) (Nat.le_refl _) tabAt2 ⟨#[], by simp⟩ ht
theorem Rl.tabbed {W : Wd} {S : Ss} {P : Addr} {H2 : Hp} (R : Rl W S) (hP : P ∈ W.T) (h : GxR.Tabbed P S.H H2) : S.le { S with H := H2 } ∧ Rl W { S with H := H2 } := by
  obtain ⟨⟨ps2, e2, t2⟩, hne⟩ := h
  obtain ⟨ps, e1, t1⟩ := R.tab P hP
  have nP : ¬ S.own P := (hid_some.mp e1).2
  have l : S.le { S with H := H2 } := by
    refine ⟨⟨fun a o e => ?_, fun _ _ => rfl, Nat.le_refl _⟩, rfl⟩
    have e : hid S a = some o := e
    obtain ⟨g1, g2⟩ := hid_some.mp e
    by_cases ha : a = P
    · subst ha
      rw [e1] at e
      cases e
      exact .inr ⟨ps, ps2, rfl, hid_some.mpr ⟨e2, g2⟩, fun _ => t2⟩
    · exact .inl (hid_some.mpr ⟨(hne a ha).trans g1, g2⟩)
  refine ⟨l, R.inj, R.lt, fun k c e => (R.ok k c e).mono l.1 (hne _ fun z => nP (.inl ⟨k, c, e, z⟩)), fun a ha => tab_ext l.1.1 (R.tab a ha), fun a u e => ⟨(hne a fun z => nP (.inr ⟨u, by rw [← z]; exact e⟩)).trans (R.prv a u e).1, (R.prv a u e).2⟩, ?_⟩
  intro z
  obtain ⟨z1, qs, z2, z3, z4⟩ := R.lam z
  have stay : ∀ a o, a ≠ P → hid S a = some o → hid { S with H := H2 } a = some o := fun a o ha e => by
    obtain ⟨g1, g2⟩ := hid_some.mp e
    exact hid_some.mpr ⟨(hne a ha).trans g1, g2⟩
  have nL : W.cls 1000 ≠ P := fun q => z1 (by rw [q]; exact hP)
  refine ⟨z1, qs, stay _ _ nL z2, z3, fun pos cv hc => ?_⟩
  obtain ⟨c, e3, e4⟩ := z4 pos cv hc
  refine ⟨c, e3, stay _ _ (fun q => ?_) e4⟩
  rw [q, e1] at e4
  exact LamX.codeO_ne _ (Option.some.inj e4).symm
theorem genFold_of {e : Expr} {env : PySem.Env} (h1 : isSetE e = false) (h2 : isSeqE e = false) : ∀ v, genFold e env v = pure v := by
  intro v
  cases e <;> first | rfl | (cases (show true = false from h1); done) | cases (show true = false from h2)
variable {T : List Addr} {cls : Nat → Addr} {Wx : WX}
theorem PEs.one {W : Wd} {as : IR} {e : Expr} {Wx : WX} (h : PEs X W Wx as [e]) : ∃ a, as = .cons a .nil ∧ isStar e = false ∧ PE X e (DE W Wx a) := by
  cases as with
  | cons a r =>
    obtain ⟨h1, h2, h3⟩ := h
    cases r with
    | nil => exact ⟨a, rfl, h1, h2⟩
    | cons _ _ => exact (show False from h3).elim
    | _ => exact (show False from h3).elim
  | nil => cases (show [e] = [] from h)
  | _ => exact (show False from h).elim
theorem PEs.two {W : Wd} {as : IR} {e e' : Expr} {Wx : WX} (h : PEs X W Wx as [e, e']) : ∃ a a', as = .cons a (.cons a' .nil) ∧ isStar e = false ∧ PE X e (DE W Wx a) ∧ isStar e' = false ∧ PE X e' (DE W Wx a') := by
  cases as with
  | cons a r =>
    obtain ⟨h1, h2, h3⟩ := h
    obtain ⟨a', rfl, h4, h5⟩ := PEs.one h3
    exact ⟨a, a', rfl, h1, h2, h4, h5⟩
  | nil => cases (show [e, e'] = [] from h)
  | _ => exact (show False from h).elim
theorem PEs.none {W : Wd} {as : IR} {Wx : WX} (h : PEs X W Wx as []) : as = .nil := by
  cases as with
  | cons a r => exact (show False from h).elim
  | nil => rfl
  | _ => exact (show False from h).elim
def eAllS (z : Str) : EvE := fun _ ds μ Q _ => match ds with
  | [.str s] => Q (.bl (s.cps.toList.all fun c => decide (c ∈ z.cps.toList))) μ
  | _ => False
def fAllS (gz : Str) : XF := fun _ sc t e => match e with
  | .Call (.Name y _) [.GeneratorExp (.Compare (.Name v _) [.In] [.Name g _] _) [⟨.Name v' _, iter, [], as⟩] scope _] [] _ =>
    if as = 0 ∧ y = ("all" : Str) ∧ glB sc y = true ∧ t = true ∧ v = v' ∧ gz = g ∧ okName v = true ∧ okName g = true ∧ noFree scope = true ∧ scope.kind = .function ∧ scope.isCoroutine = false ∧ scope.names.lookup (".0" : Str) = some .local ∧ scope.names.lookup v = some .local ∧ scope.names.lookup g = some .globalImplicit ∧ isSetE iter = false ∧ isSeqE iter = false then some [iter] else none
  | _ => none
def eAllN (i : Nat) : EvE := fun δ ds μ Q _ => match ds, δ[i]? with
  | [.int m, .int n], some (some d) => match asLM d μ with
    | some ys => (-(2 ^ 62) ≤ m ∧ m < 2 ^ 62 ∧ -(2 ^ 62) ≤ n ∧ n < 2 ^ 62) ∧ ys.all flatD = true ∧ Q (.bl ((intsD m (n - m).toNat).all fun e => ys.any fun y => deq y e)) μ
    | none => False
  | _, _ => False
theorem d_allS {it : Expr} {f : XF} {v g : Str} {p1 p2 p3 p4 p5 : Pos} {z : Str} {ci : IR} (hr : Room k X.A) (hcd : CodeOk X T) (hn : X.mg "all" = none) (hz : ∃ t, X.mg g = some (.str z t)) (hi : PE X it (DE (wd X T cls) Wx ci)) (hg : Gl X "all")
    (h1 : okName v = true) (h2 : okName g = true) (h3 : noFree scope = true) (h4 : scope.kind = .function) (h5 : scope.isCoroutine = false) (h6 : scope.names.lookup (".0" : Str) = some .local) (h7 : scope.names.lookup v = some .local) (h8 : scope.names.lookup g = some .globalImplicit) (h9 : isSetE it = false) (h10 : isSeqE it = false) :
    PE X (.Call (.Name "all" p1) [.GeneratorExp (.Compare (.Name v p2) [.In] [.Name g p3] p4) [⟨.Name v p5, it, [], 0⟩] scope gpos] [] pos) (DE (wd X T cls) Wx (.nod f (eAllS z) (.cons ci .nil))) := by
  obtain ⟨c1, P, hcode, TB, hP⟩ := hcd
  have nf : ∀ y ∈ scope.names, y.2 ≠ .cell ∧ y.2 ≠ .free := fun y hy => by
    have q := List.all_eq_true.mp h3 y hy
    refine ⟨fun e => ?_, fun e => ?_⟩ <;> (rw [e] at q; cases q)
  refine ⟨fun pins s σ H Q I h => ?_⟩
  refine all_gen I hr hg hn TB hcode ⟨h4, h5, fun y hy => (nf y hy).1, h6, h7, fun y hy e => absurd e (nf y hy).2⟩ (genFold_of h9 h10) fun Q0 hQ0 => ?_
  have hd : DE (wd X T cls) Wx ci σ H fun u H1 => ∃ a : Str, u = .str a ∧ GxR.TabG H1 P ∧ ∀ H2, GxR.Tabbed P H1 H2 → Q (.bl (a.cps.toList.all fun c => decide (c ∈ z.cps.toList))) H2 := by
    obtain ⟨S, δ, QM, QX, rfl, R, hE, hw, hq, hx⟩ := h
    simp only [wpE, wpA] at hw
    refine ⟨S, δ, _, QX, rfl, R, hE, hw, fun S1 d1 v1 l1 R1 r1 w1 => ?_, hx⟩
    dsimp only [eAllS] at w1
    split at w1
    · rename_i a hds
      cases hds
      refine ⟨a, r1, R1.tabG hP, fun H2 hT => ?_⟩
      obtain ⟨l2, R2⟩ := R1.tabbed hP hT
      exact hq { S1 with H := H2 } (.bl _) _ (l1.trans l2) R2 rfl w1
    · exact w1.elim
  refine thn (hi.run pins s σ H _ I hd) fun u s1 ⟨v1, H1, I1, r1, a, e1, tb, q⟩ => ?_
  subst e1
  obtain ⟨t, rfl⟩ := r1
  refine wpAny_pyIter_str fun o St W hst => hQ0 s1 o H1 a.cps.size (GxR.trF (fun c => decide (c ∈ z.cps.toList)) a.cps.toList) ⟨I1, tb, SignAt a, St, fun hh => hh.Ns mainGlobals X.mg, W, hst, ?_, fun h' hk => ?_⟩ fun H2 hT => ?_
  · intro ce A1 E1 i u s2 m2 hA hs hgl hcl hPi hns hm hG
    obtain ⟨cc, tt, hcc, rfl⟩ := hPi
    refine wpAny_Compare1 (wpAny_Name (wpAny_loadName_local (by rw [hs]; exact h4) (show ce.scope.names.lookup v = some .local by rw [hs]; exact h7) hns hm ?_) (okN h1).1) (by rfl)
    obtain ⟨tz, hz⟩ := hz
    refine Calls.Name_function_global (by rw [hs]; exact h4) (show ce.scope.names.lookup g = some .globalImplicit by rw [hs]; exact h8) (Calls.loadGlobal_global (by rw [hgl]; exact hG) hz ?_) (okN h2).1
    refine PyProof.Rows.in_str ⟨?_, GxR.keeps_refl _⟩
    have e9 : a.cps.toList[i]? = some cc := by rw [Array.getElem?_toList]; exact hcc
    rw [GxR.trF_some e9, PySem.StrLaws.found_one z cc]
  · refine I1.mod.glob.keeps fun b u e => hk b u (fun zz => ?_) (I1.bk b u e)
    obtain ⟨ps, hp, _⟩ := tb
    have := (I1.bs b u e).2
    rw [zz, hp] at this
    cases this
  · rw [GxR.all_signs a]
    exact q H2 hT
variable {B : Bs} {cd : Prop}
theorem n_allS {gz z : Str} (h0 : cd) (h1 : B.mg "all" = none) (h2 : ∃ t, B.mg gz = some (.str z t)) : NodOk B T cls k cd (fAllS gz) (eAllS z) := by
  intro X top Wx e es as S hf hp
  unfold fAllS at hf
  split at hf
  · rename_i y p1 v p2 g p3 p4 v' p5 iter as0 scope p6 p7
    split at hf
    · rename_i hc
      obtain ⟨rfl, rfl, g1, ht, rfl, rfl, c1, c2, c3, c4, c5, c6, c7, c8, c9, c10⟩ := hc
      cases hf
      obtain ⟨ci, rfl, _, hi⟩ := hp.one
      have hB := S.bs
      subst hB
      exact d_allS S.g.room (S.co h0) h1 h2 hi (gl_of g1) c1 c2 c3 c4 c5 c6 c7 c8 c9 c10
    · cases hf
  · cases hf
end
end M
end
section
namespace M
open PySem PySem.Spec PyProof.Rows L2
section
variable {B : Bs} {T : List Addr} {cls : Nat → Addr} {k : Nat}
theorem stars_of {N : List Str} : ∀ {c : IR} {sc : Scope} {t : Bool} {es : List Expr}, chkA N c sc t es = true → (es.all fun e => !isStar e) = true
  | c, sc, t, [], _ => rfl
  | c, sc, t, e :: es, h => by
    cases c with
    | cons a r =>
      simp only [chkA, Bool.and_eq_true] at h
      rw [List.all_cons, h.1.1, stars_of h.2]
      rfl
    | _ => cases (show false = true from h)
theorem starsG_of {N : List Str} : ∀ {c : IR} {sc : Scope} {t : Bool} {es : List Expr}, chkGs N c sc t es = true → (es.all fun e => !isStar e) = true
  | c, sc, t, [], _ => rfl
  | c, sc, t, e :: es, h => by
    cases c with
    | cons a r =>
      simp only [chkGs, Bool.and_eq_true] at h
      rw [List.all_cons, h.1.1, starsG_of h.2]
      rfl
    | _ => cases (show false = true from h)
theorem assignEach_len {env : PySem.Env} : ∀ {es : List Expr}, (es.all fun e => !isStar e) = true → (assignEach es env).length = es.length
  | [], _ => rfl
  | e :: es, h => by
    rw [List.all_cons, Bool.and_eq_true, Bool.not_eq_true'] at h
    rw [assignEach_of h.1, List.length_cons, List.length_cons, assignEach_len h.2]
theorem assignEach_idx {env : PySem.Env} : ∀ {es : List Expr}, (es.all fun e => !isStar e) = true → (assignEach es env).findIdx? (·.1) = none
  | [], _ => rfl
  | e :: es, h => by
    rw [List.all_cons, Bool.and_eq_true, Bool.not_eq_true'] at h
    rw [assignEach_of h.1, List.findIdx?_cons]
    rw [assignEach_idx h.2]
    rfl
theorem Sd.blk {X : Cx} {top : Bool} {cd : Prop} {Wx : WX} (h : Sd B T cls k X top cd Wx) (s : Shared) (H : Hp) (scope : Scope) (ce : PySem.Env) (fp : List Addr) : Sd B T cls k (X.blk s H scope ce fp) false False W0 := ⟨h.bs, h.g.blk s H scope ce fp, fun z => z.elim, takesF, fun _ z => z, (fun z => by cases z), (fun z => by cases z), h.gu⟩
theorem lk_rel {sc : Scope} {x : Str} : ∀ {ns : List (Str × NameKind)}, ns.lookup x = some .cell → (ns.map fun (n, k) => if (k == .free && sc.kind == .function && sc.names.lookup n == some .cell) then (n, NameKind.cell) else (n, k)).lookup x = some .cell
  | [], h => by cases h
  | (n, k) :: r, h => by
    rw [List.map_cons]
    by_cases e : x = n
    · subst e
      rw [List.lookup_cons, beq_self_eq_true] at h
      cases h
      exact List.lookup_cons_self
    · have e1 : (x == n) = false := by simp [e]
      rw [List.lookup_cons, e1] at h
      have ih := lk_rel (sc := sc) h
      dsimp only
      split <;> (rw [List.lookup_cons, e1]; exact ih)
theorem pgN {X : Cx} {g : IR} {tg : Expr} {scope sc : Scope} {s : Shared} {H : Hp} {ce : PySem.Env} {fp : List Addr} {b : Bool} (nd : X.N.Nodup) (hs : ce.scope = relS scope sc) (h : (b || chkN X.N g scope tg) = true) (f : b = true → PG (X.blk s H scope ce fp) tg (DG (wd (X.blk s H scope ce fp) T cls) g)) : PG (X.blk s H scope ce fp) tg (DG (wd (X.blk s H scope ce fp) T cls) g) := by
  rw [Bool.or_eq_true] at h
  rcases h with h | h
  · exact f h
  · unfold chkN at h
    split at h
    · rename_i i x _
      rw [Bool.and_eq_true, decide_eq_true_eq, decide_eq_true_eq] at h
      refine g_name nd h.1 (.inr ?_) (.inl ?_)
      · show ce.scope.names.lookup x = some .cell
        rw [hs]
        exact lk_rel h.2
      · show (scope.names.lookup x == some .cell) = true
        rw [h.2]
        rfl
    · cases h
theorem opt_of {X : Cx} {Wx : WX} {c : IR} {e : Option Expr} {f : Expr → Bool} (g : ∀ e, f e = true → PE X e (DE (wd X T cls) Wx c)) (h : chkOpt c e f = true) : PO X e (DO (wd X T cls) Wx c) := by
  unfold chkOpt at h
  split at h
  · exact d_onone
  · cases h
  · rename_i hn
    exact d_osome (fun z => hn z) (g _ h)
  · cases h
theorem tests_of {X : Cx} {Wx : WX} {c : IR} {es : List Expr} {f : Expr → Bool} (g : ∀ e, f e = true → PT X e (DT (wd X T cls) Wx c)) (h : chkTs c es f = true) : PTs X es (DT (wd X T cls) Wx c) := by
  unfold chkTs at h
  split at h
  · exact ts_nil
  · cases h
  · exact ts_one (g _ h)
  · cases h
theorem pa_of {X : Cx} {Wx : WX} : ∀ (c : IR) {es : List Expr}, PEs X (wd X T cls) Wx c es → PA X es (DA (wd X T cls) Wx c)
  | c, [], h => by
    cases c with
    | nil => exact d_anil
    | cons _ _ => exact (show False from h).elim
    | _ => exact (show False from h).elim
  | c, e :: es, h => by
    cases c with
    | nil => cases (show e :: es = [] from h)
    | cons a r =>
      obtain ⟨h1, h2, h3⟩ := h
      exact d_acons h2 (pa_of r h3) (star_of h1)
    | _ => exact (show False from h).elim
section
variable {X : Cx} {Wx : WX}
theorem d_mcl {o : Expr} {es : List Expr} {co ca : IR} {k : Nat} {m : Str} {tbl : List (Nat × Spec)} {apos pos : Pos} (hr : Room k X.A) (tk : L2N.Takes X Wx) (h : ∀ c sp, tbl.lookup c = some sp → MeC (Cx.bs X) T cls k c m sp) (ho : PE X o (DE (wd X T cls) Wx co)) (hpe : PEs X (wd X T cls) Wx ca es)
    (hno : isCall o = false) (hst : (es.all fun e => !isStar e) = true) (hlen : es.length < 30) (hline : (apos.endLine == pos.line) = true) : PE X (.Call (.Attribute o m apos) es [] pos) (DE (wd X T cls) Wx (.mcl m tbl co ca)) := by
  refine ⟨fun pins s σ H Q I hh => ?_⟩
  have hform : methodCallForm (es.length + ([] : List Keyword).length) (backTo pos (starEach es X.env)) (backToKw pos (keywordEach [] X.env)) = true := by
    unfold methodCallForm
    rw [backAll_of hst]
    show (true && true && decide (es.length + 0 + 0 < 30)) = true
    rw [Bool.true_and, Bool.true_and]
    exact decide_eq_true hlen
  obtain ⟨S, δ, QM, QX, rfl, R, hE, hw, hq, hx⟩ := hh
  simp only [wpE] at hw
  refine own_call (base_of hno) hform hline ?_
  have hd : DE (wd X T cls) Wx co σ S.H fun x H1 => ∃ (S1 : Ss) (j c : Nat) (fs : List (Str × D)) (sp : Spec), H1 = S1.H ∧ x = .ref (S1.ρ j) ∧ S.le S1 ∧ Rl (wd X T cls) S1 ∧ Rep X.K S1.vw (.obj j) x ∧ S1.μ.cell j = some (.ins c fs) ∧ fs.lookup m = none ∧ tbl.lookup c = some sp ∧ wpA ca δ S1.μ (fun ds μ2 => sp (.obj j :: ds) μ2 QM QX) QX := by
    refine ⟨S, δ, _, QX, rfl, R, hE, hw, fun S1 d1 v1 l1 R1 r1 w1 => ?_, hx⟩
    dsimp only at w1
    split at w1
    · rename_i sp e
      obtain ⟨j, c, fs, rfl, e2, e3, e4⟩ := metOf_eq e
      exact ⟨S1, j, c, fs, sp, rfl, r1.2, l1, R1, r1, e2, e3, e4, w1⟩
    · exact w1.elim
  refine thn (ho.run pins s σ S.H _ I hd) fun u s1 ⟨x, H1, I1, rx, S1, j, c, fs, sp, e1, ex, l1, R1, r1, e2, e3, e4, w1⟩ pl => ?_
  subst e1 ex
  obtain rfl : u = Value.ref (S1.ρ j) := rx
  obtain ⟨hc, f, fd, ps, sp', dd, dvs, dus, hm, F, hb, hdv, hrd, imp⟩ := h c sp e4
  obtain ⟨dx, es2, ei, r2⟩ := R1.ok _ _ e2
  have hl : es2.lookup m = none := by
    have := repP_lookup (f := m) r2
    rw [e3] at this
    exact this
  refine getmeth_ok I1 ei hc hm hl ?_
  cases es with
  | nil =>
    have e5 : ca = .nil := by
      cases ca <;> first | rfl | exact (show False from hpe).elim
    subst e5
    simp only [wpA] at w1
    refine PySem.W.callWith_K0 (first := [.ref (S1.ρ j)]) I1.kIn hm.kp ?_
    exact run_fnSD (us := [.ref (S1.ρ j)]) (vs := [.ref (S1.ρ j)]) F hr hb hdv (L2N.passAt tk σ) I1 (.cons rfl .nil) ⟨S1, [.obj j] ++ dd, QM, QX, rfl, R1, (Reps.one r1).append (hrd _), imp _ _ _ _ w1, hq.le l1, hx.le l1⟩
  | cons e es =>
    have ha := pa_of ca hpe
    have hda : DA (wd X T cls) Wx ca σ S1.H fun vs H2 => ∃ (S2 : Ss) (ds : List D), H2 = S2.H ∧ S1.le S2 ∧ Rl (wd X T cls) S2 ∧ Reps X.K S2.vw ds vs ∧ sp (.obj j :: ds) S2.μ QM QX :=
      ⟨S1, δ, _, QX, rfl, R1, hE.mono l1.1, w1, fun S2 ds vs l2 R2 r3 w2 => ⟨S2, ds, rfl, l2, R2, r3, w2⟩, hx.le l1⟩
    rw [List.all_cons, Bool.and_eq_true, Bool.not_eq_true'] at hst
    refine PySem.W.callWith_K (first := [.ref (S1.ρ j)]) (h₀ := X.base) I1.ok.mod.kin hm.kp (thn (ha.run pos pins s1 σ S1.H _ I1 hda) fun us s2 ⟨vs, H2, I2, r, S2, ds, e5, l2, R2, r3, w2⟩ => ⟨I2.kIn, ?_⟩) (star_of hst.1) (back_of hst.2)
    subst e5
    exact run_fnSD (us := .ref (S1.ρ j) :: us) (vs := .ref (S1.ρ j) :: vs) F hr hb hdv (L2N.passAt tk σ) I2 (.cons rfl r) ⟨S2, (.obj j :: ds) ++ dd, QM, QX, rfl, R2, (show Reps X.K S2.vw (.obj j :: ds) (.ref (S1.ρ j) :: vs) from ⟨_, _, rfl, r1.mono l2.1, r3⟩).append (hrd _), imp _ _ _ _ w2, hq.le (l1.trans l2), hx.le (l1.trans l2)⟩
end
mutual
theorem sndE : ∀ (c : IR) {cd : Prop} {top : Bool} {X : Cx} {Wx : WX} {e : Expr}, Sd B T cls k X top cd Wx → okE B T cls k cd c → chkE X.N c X.env.scope top e = true → PE X e (DE (wd X T cls) Wx c)
  | .var i, cd, top, X, Wx, e, S, ok, h => by
    cases e with
    | Name x pos =>
      simp only [chkE, Bool.and_eq_true, decide_eq_true_eq, Bool.not_eq_true'] at h
      obtain ⟨⟨h1, h2⟩, h3⟩ := h
      exact d_var h1 (vis_of h2) (okN h3).1 (okN h3).2
    | _ => cases (show false = true from h)
  | .con d, cd, top, X, Wx, e, S, ok, h => by
    cases e with
    | Constant c j pos =>
      simp only [chkE] at h
      cases d <;> cases c <;> simp only [conB, decide_eq_true_eq, beq_iff_eq] at h <;> first | (cases h; done) | skip
      · exact d_con pe_non fun _ => rfl
      · subst h; exact d_con pe_bl fun _ => rfl
      · subst h; exact d_con pe_int fun _ => rfl
      · subst h; exact d_con pe_str fun _ => rfl
    | _ => cases (show false = true from h)
  | .glb x d, cd, top, X, Wx, e, S, ok, h => by
    cases e with
    | Name y pos =>
      simp only [chkE, Bool.and_eq_true, decide_eq_true_eq] at h
      obtain ⟨⟨rfl, h2⟩, h3⟩ := h
      have hB := S.bs
      obtain ⟨u, v, hm, hr, hv⟩ := (show GlC (Cx.bs X) x d from hB ▸ ok)
      exact d_glb (pe_glob (gl_of h2) hm hr (okN h3).1) hv
    | _ => cases (show false = true from h)
  | .bty n, cd, top, X, Wx, e, S, ok, h => by
    cases e with
    | Name y pos =>
      simp only [chkE, Bool.and_eq_true, decide_eq_true_eq] at h
      obtain ⟨⟨rfl, h2⟩, h3⟩ := h
      have hB := S.bs
      obtain ⟨hm, hv, hn⟩ := (show BtC (Cx.bs X) n from hB ▸ ok)
      exact d_bty (pe_bltn (gl_of h2) hm hv rfl hn (okN h3).1)
    | _ => cases (show false = true from h)
  | .bin o a b, cd, top, X, Wx, e, S, ok, h => by
    cases e with
    | BinOp l p r pos =>
      simp only [chkE, Bool.and_eq_true, decide_eq_true_eq, Bool.not_eq_true'] at h
      obtain ⟨⟨rfl, h1⟩, h2⟩ := h
      exact d_bin (sndE a S ok.1 h1) (sndE b S ok.2 h2)
    | _ => cases (show false = true from h)
  | .neg a, cd, top, X, Wx, e, S, ok, h => by
    cases e with
    | UnaryOp op x pos =>
      cases op <;> simp only [chkE] at h <;> first | (cases h; done) | exact d_neg (sndE a S ok h)
    | _ => cases (show false = true from h)
  | .notV a, cd, top, X, Wx, e, S, ok, h => by
    cases e with
    | UnaryOp op x pos =>
      cases op <;> simp only [chkE] at h <;> first | (cases h; done) | exact d_not (sndE a S ok h)
    | _ => cases (show false = true from h)
  | .cmp o a b, cd, top, X, Wx, e, S, ok, h => by
    cases e with
    | Compare l ops cs pos =>
      rcases ops with _ | ⟨p, _ | ⟨p', ops⟩⟩ <;> rcases cs with _ | ⟨r, _ | ⟨r', cs⟩⟩ <;> first | (cases (show false = true from h); done) | skip
      simp only [chkE, Bool.and_eq_true, decide_eq_true_eq, Bool.not_eq_true'] at h
      obtain ⟨⟨⟨rfl, h1⟩, h2⟩, h3⟩ := h
      exact d_cmp S.g.room (sndE a S ok.1 h2) (sndE b S ok.2 h3) h1
    | _ => cases (show false = true from h)
  | .chn o o' a b c, cd, top, X, Wx, e, S, ok, h => by
    cases e with
    | Compare l ops cs pos =>
      rcases ops with _ | ⟨p, _ | ⟨p', _ | ⟨p'', ops⟩⟩⟩ <;> rcases cs with _ | ⟨r, _ | ⟨r', _ | ⟨r'', cs⟩⟩⟩ <;> first | (cases (show false = true from h); done) | skip
      simp only [chkE, Bool.and_eq_true, decide_eq_true_eq, Bool.not_eq_true'] at h
      obtain ⟨⟨⟨⟨⟨rfl, rfl⟩, h1⟩, h2⟩, h3⟩, h4⟩ := h
      exact d_chn S.g.room (sndE a S ok.1 h2) (sndE b S ok.2.1 h3) (sndE c S ok.2.2 h4) h1
    | _ => cases (show false = true from h)
  | .one a, cd, top, X, Wx, e, S, ok, h => by
    cases e with
    | BoolOp op es pos =>
      rcases es with _ | ⟨x, _ | ⟨y, es⟩⟩ <;> first | (cases (show false = true from h); done) | skip
      simp only [chkE] at h
      exact d_one (sndE a S ok h)
    | _ => cases (show false = true from h)
  | .andV a r, cd, top, X, Wx, e, S, ok, h => by
    cases e with
    | BoolOp op es pos =>
      cases op <;> rcases es with _ | ⟨x, _ | ⟨y, es⟩⟩ <;> first | (cases (show false = true from h); done) | skip
      simp only [chkE, Bool.and_eq_true] at h
      exact d_and (sndE a S ok.1 h.1) (sndE r S ok.2 h.2)
    | _ => cases (show false = true from h)
  | .orV a r, cd, top, X, Wx, e, S, ok, h => by
    cases e with
    | BoolOp op es pos =>
      cases op <;> rcases es with _ | ⟨x, _ | ⟨y, es⟩⟩ <;> first | (cases (show false = true from h); done) | skip
      simp only [chkE, Bool.and_eq_true] at h
      exact d_or (sndE a S ok.1 h.1) (sndE r S ok.2 h.2)
    | _ => cases (show false = true from h)
  | .ife c a b, cd, top, X, Wx, e, S, ok, h => by
    cases e with
    | IfExp x y z pos =>
      simp only [chkE, Bool.and_eq_true, decide_eq_true_eq, Bool.not_eq_true'] at h
      exact d_ife (sndT c S ok.1 h.1.1) (sndE a S ok.2.1 h.1.2) (sndE b S ok.2.2 h.2)
    | _ => cases (show false = true from h)
  | .ix a i, cd, top, X, Wx, e, S, ok, h => by
    cases e with
    | Subscript x y pos =>
      simp only [chkE, Bool.and_eq_true, Bool.not_eq_true'] at h
      exact d_ix S.g.room (sndE a S ok.1 h.1.2) (sndE i S ok.2 h.2) (plainIx_of h.1.1)
    | _ => cases (show false = true from h)
  | .sl a lo hi, cd, top, X, Wx, e, S, ok, h => by
    cases e with
    | Subscript x y pos =>
      cases y with
      | Slice l u st p2 =>
        cases st with
        | none =>
          simp only [chkE, Bool.and_eq_true] at h
          exact d_sl (sndE a S ok.1 h.1.1) (opt_of (fun e he => sndE lo S ok.2.1 he) h.1.2) (opt_of (fun e he => sndE hi S ok.2.2 he) h.2)
        | some _ => cases (show false = true from h)
      | _ => cases (show false = true from h)
    | _ => cases (show false = true from h)
  | .tupC as, cd, top, X, Wx, e, S, ok, h => by
    cases e with
    | Tuple es j pos =>
      simp only [chkE] at h
      exact d_tup (pa_of as (sndL as S ok h))
    | _ => cases (show false = true from h)
  | .lstC as, cd, top, X, Wx, e, S, ok, h => by
    cases e with
    | List es pos =>
      simp only [chkE] at h
      exact d_lst (pa_of as (sndL as S ok h))
    | _ => cases (show false = true from h)
  | .lstM as, cd, top, X, Wx, e, S, ok, h => by
    cases e with
    | List es pos =>
      simp only [chkE] at h
      exact d_lstM (pa_of as (sndL as S ok h))
    | _ => cases (show false = true from h)
  | .cal x sp as, cd, top, X, Wx, e, S, ok, h => by
    cases e with
    | Call f es kws pos =>
      cases f with
      | Name y p =>
        cases kws with
        | nil =>
          simp only [chkE, Bool.and_eq_true, decide_eq_true_eq, Bool.not_eq_true'] at h
          obtain ⟨⟨⟨rfl, h2⟩, h3⟩, h4⟩ := h
          have hB := S.bs
          cases es with
          | nil => cases h3
          | cons e es =>
            have hs := stars_of h4
            have hs' := hs
            rw [List.all_cons, Bool.and_eq_true, Bool.not_eq_true'] at hs'
            exact d_cal S.g.room S.g.calm S.tk (show CalC (Cx.bs X) T cls k x sp from hB ▸ ok.1) (gl_of h2) (pa_of as (sndL as S ok.2 h4)) (star_of hs'.1) (back_of hs'.2)
        | cons _ _ => cases (show false = true from h)
      | _ => cases (show false = true from h)
    | _ => cases (show false = true from h)
  | .bme Ty id m sp o as, cd, top, X, Wx, e, S, ok, h => by
    cases e with
    | Call f es kws pos =>
      cases f with
      | Attribute x a apos =>
        cases kws with
        | nil =>
          simp only [chkE, Bool.and_eq_true, decide_eq_true_eq, Bool.not_eq_true'] at h
          obtain ⟨⟨⟨⟨⟨⟨rfl, h1⟩, h2⟩, h3⟩, h4⟩, h5⟩, h6⟩ := h
          have hB := S.bs
          cases es with
          | nil => cases h2
          | cons e es => exact d_bme S.g.room S.g.calm (show MtC (Cx.bs X) T cls k Ty id m sp from hB ▸ ok.1) (sndE o S ok.2.1 h5) (pa_of as (sndL as S ok.2.2 h6)) h1 (stars_of h6) h3 h4
        | cons _ _ => cases (show false = true from h)
      | _ => cases (show false = true from h)
    | _ => cases (show false = true from h)
  | .mcl m tbl o as, cd, top, X, Wx, e, S, ok, h => by
    cases e with
    | Call f es kws pos =>
      cases f with
      | Attribute x a apos =>
        cases kws with
        | nil =>
          simp only [chkE, Bool.and_eq_true, decide_eq_true_eq, Bool.not_eq_true'] at h
          obtain ⟨⟨⟨⟨⟨rfl, h1⟩, h2⟩, h3⟩, h4⟩, h5⟩ := h
          have hB := S.bs
          exact d_mcl S.g.room S.tk (show ∀ c sp, tbl.lookup c = some sp → MeC (Cx.bs X) T cls k c m sp from hB ▸ ok.1) (sndE o S ok.2.1 h4) (sndL as S ok.2.2 h5) h1 (stars_of h5) h2 h3
        | cons _ _ => cases (show false = true from h)
      | _ => cases (show false = true from h)
    | _ => cases (show false = true from h)
  | .cpr own g it t e', cd, top, X, Wx, e, S, ok, h => by
    cases e with
    | ListComp elt gs scope pos =>
      rcases gs with _ | ⟨⟨tg, iter, ifs, as⟩, _ | ⟨g2, gs⟩⟩ <;> first | (cases (show false = true from h); done) | (simp [chkE] at h; done) | skip
      simp only [chkE, Bool.and_eq_true, Bool.not_eq_true', List.all_eq_true, decide_eq_true_eq] at h
      obtain ⟨⟨⟨⟨⟨⟨⟨rfl, h1⟩, h2⟩, h3⟩, h4⟩, h5⟩, h6⟩, h7⟩ := h
      exact d_cpr S.g.calm S.g.nd (sndI it S ok.1 h4) (blkOk_by h1) h2 (fun s H C cl fp => pgN S.g.nd rfl h5 fun h5 => sndG g (S.blk s H scope _ fp) ok.2.1 h5) (fun s H C cl fp => tests_of (fun e he => sndT t (S.blk s H scope _ fp) ok.2.2.1 he) h6) (fun s H C cl fp => sndE e' (S.blk s H scope _ fp) ok.2.2.2 h7) (set_of h3)
    | _ => cases (show false = true from h)
  | .dcp own g it ke ve, cd, top, X, Wx, e, S, ok, h => by
    cases e with
    | DictComp kx vx gs scope pos =>
      rcases gs with _ | ⟨⟨tg, iter, ifs, as⟩, _ | ⟨g2, gs⟩⟩ <;> first | (cases (show false = true from h); done) | (simp [chkE] at h; done) | skip
      cases ifs with
      | cons _ _ => cases (show false = true from h)
      | nil =>
        simp only [chkE, Bool.and_eq_true, Bool.not_eq_true', List.all_eq_true, decide_eq_true_eq] at h
        obtain ⟨⟨⟨⟨⟨⟨⟨rfl, h1⟩, h2⟩, h3⟩, h4⟩, h5⟩, h6⟩, h7⟩ := h
        exact d_dcp S.g.calm S.g.nd (sndI it S ok.1 h4) (blkOk_by h1) h2 (fun s H C cl fp => sndG g (S.blk s H scope _ fp) ok.2.1 h5) (fun s H C cl fp => sndE ke (S.blk s H scope _ fp) ok.2.2.1 h6) (fun s H C cl fp => sndE ve (S.blk s H scope _ fp) ok.2.2.2 h7) (set_of h3)
    | _ => cases (show false = true from h)
  | .lkE i a, cd, top, X, Wx, e, S, ok, h => by
    simp only [chkE] at h
    exact d_lkE (sndE a S ok h)
  | .frz a, cd, top, X, Wx, e, S, ok, h => by
    simp only [chkE] at h
    exact d_frz (sndE a S ok h)
  | .nod f ev as, cd, top, X, Wx, e, S, ok, h => by
    simp only [chkE] at h
    split at h
    · rename_i es he
      exact ok.1 X top Wx e es as S he (sndL as S ok.2 h)
    · cases h
  | .nop, cd, top, X, Wx, e, S, ok, h => nomatch (show false = true from h)
  | .nil, cd, top, X, Wx, e, S, ok, h => nomatch (show false = true from h)
  | .cons _ _, cd, top, X, Wx, e, S, ok, h => nomatch (show false = true from h)
  | .lkS _ _, cd, top, X, Wx, e, S, ok, h => nomatch (show false = true from h)
  | .itm _, cd, top, X, Wx, e, S, ok, h => nomatch (show false = true from h)
  | .ien _, cd, top, X, Wx, e, S, ok, h => nomatch (show false = true from h)
  | .tV _, cd, top, X, Wx, e, S, ok, h => nomatch (show false = true from h)
  | .tNot _, cd, top, X, Wx, e, S, ok, h => nomatch (show false = true from h)
  | .tOne _, cd, top, X, Wx, e, S, ok, h => nomatch (show false = true from h)
  | .tAnd _ _, cd, top, X, Wx, e, S, ok, h => nomatch (show false = true from h)
  | .tOr _ _, cd, top, X, Wx, e, S, ok, h => nomatch (show false = true from h)
  | .tnd _ _ _, cd, top, X, Wx, e, S, ok, h => nomatch (show false = true from h)
  | .ind _ _ _, cd, top, X, Wx, e, S, ok, h => nomatch (show false = true from h)
  | .itV _, cd, top, X, Wx, e, S, ok, h => nomatch (show false = true from h)
  | .itR1 _, cd, top, X, Wx, e, S, ok, h => nomatch (show false = true from h)
  | .itR2 _ _, cd, top, X, Wx, e, S, ok, h => nomatch (show false = true from h)
  | .gN _, cd, top, X, Wx, e, S, ok, h => nomatch (show false = true from h)
  | .gT _ _, cd, top, X, Wx, e, S, ok, h => nomatch (show false = true from h)
  | .gSub _ _, cd, top, X, Wx, e, S, ok, h => nomatch (show false = true from h)
  | .asg _ _, cd, top, X, Wx, e, S, ok, h => nomatch (show false = true from h)
  | .asc _ _, cd, top, X, Wx, e, S, ok, h => nomatch (show false = true from h)
  | .exp _, cd, top, X, Wx, e, S, ok, h => nomatch (show false = true from h)
  | .ret _, cd, top, X, Wx, e, S, ok, h => nomatch (show false = true from h)
  | .ret0, cd, top, X, Wx, e, S, ok, h => nomatch (show false = true from h)
  | .ifS _ _ _, cd, top, X, Wx, e, S, ok, h => nomatch (show false = true from h)
  | .whl _ _, cd, top, X, Wx, e, S, ok, h => nomatch (show false = true from h)
  | .fr _ _ _, cd, top, X, Wx, e, S, ok, h => nomatch (show false = true from h)
  | .brk, cd, top, X, Wx, e, S, ok, h => nomatch (show false = true from h)
  | .cnt, cd, top, X, Wx, e, S, ok, h => nomatch (show false = true from h)
  | .pas, cd, top, X, Wx, e, S, ok, h => nomatch (show false = true from h)
  | .sno _ _ _, cd, top, X, Wx, e, S, ok, h => nomatch (show false = true from h)
  | .nev, cd, top, X, Wx, e, S, ok, h => nomatch (show false = true from h)
  | .seq _ _, cd, top, X, Wx, e, S, ok, h => nomatch (show false = true from h)
theorem sndL : ∀ (c : IR) {cd : Prop} {top : Bool} {X : Cx} {Wx : WX} {es : List Expr}, Sd B T cls k X top cd Wx → okE B T cls k cd c → chkA X.N c X.env.scope top es = true → PEs X (wd X T cls) Wx c es
  | .nil, cd, top, X, Wx, es, S, ok, h => by
    cases es with
    | nil => exact rfl
    | cons _ _ => cases (show false = true from h)
  | .cons a r, cd, top, X, Wx, es, S, ok, h => by
    cases es with
    | nil => cases (show false = true from h)
    | cons e es =>
      simp only [chkA, Bool.and_eq_true, Bool.not_eq_true'] at h
      exact ⟨h.1.1, sndE a S ok.1 h.1.2, sndL r S ok.2 h.2⟩
  | .nop, cd, top, X, Wx, es, S, ok, h => nomatch (show false = true from h)
  | .var _, cd, top, X, Wx, es, S, ok, h => nomatch (show false = true from h)
  | .con _, cd, top, X, Wx, es, S, ok, h => nomatch (show false = true from h)
  | .glb _ _, cd, top, X, Wx, es, S, ok, h => nomatch (show false = true from h)
  | .bty _, cd, top, X, Wx, es, S, ok, h => nomatch (show false = true from h)
  | .bin _ _ _, cd, top, X, Wx, es, S, ok, h => nomatch (show false = true from h)
  | .neg _, cd, top, X, Wx, es, S, ok, h => nomatch (show false = true from h)
  | .cmp _ _ _, cd, top, X, Wx, es, S, ok, h => nomatch (show false = true from h)
  | .chn _ _ _ _ _, cd, top, X, Wx, es, S, ok, h => nomatch (show false = true from h)
  | .one _, cd, top, X, Wx, es, S, ok, h => nomatch (show false = true from h)
  | .andV _ _, cd, top, X, Wx, es, S, ok, h => nomatch (show false = true from h)
  | .orV _ _, cd, top, X, Wx, es, S, ok, h => nomatch (show false = true from h)
  | .notV _, cd, top, X, Wx, es, S, ok, h => nomatch (show false = true from h)
  | .ife _ _ _, cd, top, X, Wx, es, S, ok, h => nomatch (show false = true from h)
  | .ix _ _, cd, top, X, Wx, es, S, ok, h => nomatch (show false = true from h)
  | .sl _ _ _, cd, top, X, Wx, es, S, ok, h => nomatch (show false = true from h)
  | .tupC _, cd, top, X, Wx, es, S, ok, h => nomatch (show false = true from h)
  | .lstC _, cd, top, X, Wx, es, S, ok, h => nomatch (show false = true from h)
  | .lstM _, cd, top, X, Wx, es, S, ok, h => nomatch (show false = true from h)
  | .cal _ _ _, cd, top, X, Wx, es, S, ok, h => nomatch (show false = true from h)
  | .bme _ _ _ _ _ _, cd, top, X, Wx, es, S, ok, h => nomatch (show false = true from h)
  | .mcl _ _ _ _, cd, top, X, Wx, es, S, ok, h => nomatch (show false = true from h)
  | .lkE _ _, cd, top, X, Wx, es, S, ok, h => nomatch (show false = true from h)
  | .lkS _ _, cd, top, X, Wx, es, S, ok, h => nomatch (show false = true from h)
  | .itm _, cd, top, X, Wx, es, S, ok, h => nomatch (show false = true from h)
  | .ien _, cd, top, X, Wx, es, S, ok, h => nomatch (show false = true from h)
  | .cpr _ _ _ _ _, cd, top, X, Wx, es, S, ok, h => nomatch (show false = true from h)
  | .dcp _ _ _ _ _, cd, top, X, Wx, es, S, ok, h => nomatch (show false = true from h)
  | .frz _, cd, top, X, Wx, es, S, ok, h => nomatch (show false = true from h)
  | .nod _ _ _, cd, top, X, Wx, es, S, ok, h => nomatch (show false = true from h)
  | .tV _, cd, top, X, Wx, es, S, ok, h => nomatch (show false = true from h)
  | .tNot _, cd, top, X, Wx, es, S, ok, h => nomatch (show false = true from h)
  | .tOne _, cd, top, X, Wx, es, S, ok, h => nomatch (show false = true from h)
  | .tAnd _ _, cd, top, X, Wx, es, S, ok, h => nomatch (show false = true from h)
  | .tOr _ _, cd, top, X, Wx, es, S, ok, h => nomatch (show false = true from h)
  | .tnd _ _ _, cd, top, X, Wx, es, S, ok, h => nomatch (show false = true from h)
  | .ind _ _ _, cd, top, X, Wx, es, S, ok, h => nomatch (show false = true from h)
  | .itV _, cd, top, X, Wx, es, S, ok, h => nomatch (show false = true from h)
  | .itR1 _, cd, top, X, Wx, es, S, ok, h => nomatch (show false = true from h)
  | .itR2 _ _, cd, top, X, Wx, es, S, ok, h => nomatch (show false = true from h)
  | .gN _, cd, top, X, Wx, es, S, ok, h => nomatch (show false = true from h)
  | .gT _ _, cd, top, X, Wx, es, S, ok, h => nomatch (show false = true from h)
  | .gSub _ _, cd, top, X, Wx, es, S, ok, h => nomatch (show false = true from h)
  | .asg _ _, cd, top, X, Wx, es, S, ok, h => nomatch (show false = true from h)
  | .asc _ _, cd, top, X, Wx, es, S, ok, h => nomatch (show false = true from h)
  | .exp _, cd, top, X, Wx, es, S, ok, h => nomatch (show false = true from h)
  | .ret _, cd, top, X, Wx, es, S, ok, h => nomatch (show false = true from h)
  | .ret0, cd, top, X, Wx, es, S, ok, h => nomatch (show false = true from h)
  | .ifS _ _ _, cd, top, X, Wx, es, S, ok, h => nomatch (show false = true from h)
  | .whl _ _, cd, top, X, Wx, es, S, ok, h => nomatch (show false = true from h)
  | .fr _ _ _, cd, top, X, Wx, es, S, ok, h => nomatch (show false = true from h)
  | .brk, cd, top, X, Wx, es, S, ok, h => nomatch (show false = true from h)
  | .cnt, cd, top, X, Wx, es, S, ok, h => nomatch (show false = true from h)
  | .pas, cd, top, X, Wx, es, S, ok, h => nomatch (show false = true from h)
  | .sno _ _ _, cd, top, X, Wx, es, S, ok, h => nomatch (show false = true from h)
  | .nev, cd, top, X, Wx, es, S, ok, h => nomatch (show false = true from h)
  | .seq _ _, cd, top, X, Wx, es, S, ok, h => nomatch (show false = true from h)
theorem sndT : ∀ (c : IR) {cd : Prop} {top : Bool} {X : Cx} {Wx : WX} {e : Expr}, Sd B T cls k X top cd Wx → okE B T cls k cd c → chkT X.N c X.env.scope top e = true → PT X e (DT (wd X T cls) Wx c)
  | .cmp o a b, cd, top, X, Wx, e, S, ok, h => by
    cases e with
    | Compare l ops cs pos =>
      rcases ops with _ | ⟨p, _ | ⟨p', ops⟩⟩ <;> rcases cs with _ | ⟨r, _ | ⟨r', cs⟩⟩ <;> first | (cases (show false = true from h); done) | skip
      simp only [chkT, Bool.and_eq_true, decide_eq_true_eq, Bool.not_eq_true'] at h
      obtain ⟨⟨⟨rfl, h1⟩, h2⟩, h3⟩ := h
      exact t_cmp S.g.room (sndE a S ok.1 h2) (sndE b S ok.2 h3) h1
    | _ => cases (show false = true from h)
  | .chn o o' a b c, cd, top, X, Wx, e, S, ok, h => by
    cases e with
    | Compare l ops cs pos =>
      rcases ops with _ | ⟨p, _ | ⟨p', _ | ⟨p'', ops⟩⟩⟩ <;> rcases cs with _ | ⟨r, _ | ⟨r', _ | ⟨r'', cs⟩⟩⟩ <;> first | (cases (show false = true from h); done) | skip
      simp only [chkT, Bool.and_eq_true, decide_eq_true_eq, Bool.not_eq_true'] at h
      obtain ⟨⟨⟨⟨⟨rfl, rfl⟩, h1⟩, h2⟩, h3⟩, h4⟩ := h
      exact t_chn S.g.room (sndE a S ok.1 h2) (sndE b S ok.2.1 h3) (sndE c S ok.2.2 h4) h1
    | _ => cases (show false = true from h)
  | .tV a, cd, top, X, Wx, e, S, ok, h => by
    simp only [chkT, Bool.and_eq_true] at h
    exact t_val (sndE a S ok h.2) (plainT_of h.1)
  | .tNot a, cd, top, X, Wx, e, S, ok, h => by
    cases e with
    | UnaryOp op x pos =>
      cases op <;> simp only [chkT] at h <;> first | (cases h; done) | exact t_not (sndT a S ok h)
    | _ => cases (show false = true from h)
  | .tOne a, cd, top, X, Wx, e, S, ok, h => by
    cases e with
    | BoolOp op es pos =>
      rcases es with _ | ⟨x, _ | ⟨y, es⟩⟩ <;> first | (cases (show false = true from h); done) | skip
      simp only [chkT] at h
      cases op
      · exact (t_and1 (sndT a S ok h)).pt
      · exact (t_or1 (sndT a S ok h)).pt
    | _ => cases (show false = true from h)
  | .tAnd a r, cd, top, X, Wx, e, S, ok, h => by
    cases e with
    | BoolOp op es pos =>
      cases op <;> rcases es with _ | ⟨x, _ | ⟨y, es⟩⟩ <;> first | (cases (show false = true from h); done) | skip
      simp only [chkT, Bool.and_eq_true] at h
      exact (t_and (sndT a S ok.1 h.1) (sndW r S ok.2 h.2)).pt
    | _ => cases (show false = true from h)
  | .tOr a r, cd, top, X, Wx, e, S, ok, h => by
    cases e with
    | BoolOp op es pos =>
      cases op <;> rcases es with _ | ⟨x, _ | ⟨y, es⟩⟩ <;> first | (cases (show false = true from h); done) | skip
      simp only [chkT, Bool.and_eq_true] at h
      exact (t_or (sndT a S ok.1 h.1) (sndW r S ok.2 h.2)).pt
    | _ => cases (show false = true from h)
  | .tnd f ev as, cd, top, X, Wx, e, S, ok, h => by
    simp only [chkT, Bool.and_eq_true] at h
    replace h := h.2
    split at h
    · rename_i es he
      exact ok.1 X top Wx e es as S he (sndL as S ok.2 h)
    · cases h
  | .nop, cd, top, X, Wx, e, S, ok, h => nomatch (show false = true from h)
  | .var _, cd, top, X, Wx, e, S, ok, h => nomatch (show false = true from h)
  | .con _, cd, top, X, Wx, e, S, ok, h => nomatch (show false = true from h)
  | .glb _ _, cd, top, X, Wx, e, S, ok, h => nomatch (show false = true from h)
  | .bty _, cd, top, X, Wx, e, S, ok, h => nomatch (show false = true from h)
  | .bin _ _ _, cd, top, X, Wx, e, S, ok, h => nomatch (show false = true from h)
  | .neg _, cd, top, X, Wx, e, S, ok, h => nomatch (show false = true from h)
  | .one _, cd, top, X, Wx, e, S, ok, h => nomatch (show false = true from h)
  | .andV _ _, cd, top, X, Wx, e, S, ok, h => nomatch (show false = true from h)
  | .orV _ _, cd, top, X, Wx, e, S, ok, h => nomatch (show false = true from h)
  | .notV _, cd, top, X, Wx, e, S, ok, h => nomatch (show false = true from h)
  | .ife _ _ _, cd, top, X, Wx, e, S, ok, h => nomatch (show false = true from h)
  | .ix _ _, cd, top, X, Wx, e, S, ok, h => nomatch (show false = true from h)
  | .sl _ _ _, cd, top, X, Wx, e, S, ok, h => nomatch (show false = true from h)
  | .tupC _, cd, top, X, Wx, e, S, ok, h => nomatch (show false = true from h)
  | .lstC _, cd, top, X, Wx, e, S, ok, h => nomatch (show false = true from h)
  | .lstM _, cd, top, X, Wx, e, S, ok, h => nomatch (show false = true from h)
  | .nil, cd, top, X, Wx, e, S, ok, h => nomatch (show false = true from h)
  | .cons _ _, cd, top, X, Wx, e, S, ok, h => nomatch (show false = true from h)
  | .cal _ _ _, cd, top, X, Wx, e, S, ok, h => nomatch (show false = true from h)
  | .bme _ _ _ _ _ _, cd, top, X, Wx, e, S, ok, h => nomatch (show false = true from h)
  | .mcl _ _ _ _, cd, top, X, Wx, e, S, ok, h => nomatch (show false = true from h)
  | .lkE _ _, cd, top, X, Wx, e, S, ok, h => nomatch (show false = true from h)
  | .lkS _ _, cd, top, X, Wx, e, S, ok, h => nomatch (show false = true from h)
  | .itm _, cd, top, X, Wx, e, S, ok, h => nomatch (show false = true from h)
  | .ien _, cd, top, X, Wx, e, S, ok, h => nomatch (show false = true from h)
  | .cpr _ _ _ _ _, cd, top, X, Wx, e, S, ok, h => nomatch (show false = true from h)
  | .dcp _ _ _ _ _, cd, top, X, Wx, e, S, ok, h => nomatch (show false = true from h)
  | .frz _, cd, top, X, Wx, e, S, ok, h => nomatch (show false = true from h)
  | .nod _ _ _, cd, top, X, Wx, e, S, ok, h => nomatch (show false = true from h)
  | .ind _ _ _, cd, top, X, Wx, e, S, ok, h => nomatch (show false = true from h)
  | .itV _, cd, top, X, Wx, e, S, ok, h => nomatch (show false = true from h)
  | .itR1 _, cd, top, X, Wx, e, S, ok, h => nomatch (show false = true from h)
  | .itR2 _ _, cd, top, X, Wx, e, S, ok, h => nomatch (show false = true from h)
  | .gN _, cd, top, X, Wx, e, S, ok, h => nomatch (show false = true from h)
  | .gT _ _, cd, top, X, Wx, e, S, ok, h => nomatch (show false = true from h)
  | .gSub _ _, cd, top, X, Wx, e, S, ok, h => nomatch (show false = true from h)
  | .asg _ _, cd, top, X, Wx, e, S, ok, h => nomatch (show false = true from h)
  | .asc _ _, cd, top, X, Wx, e, S, ok, h => nomatch (show false = true from h)
  | .exp _, cd, top, X, Wx, e, S, ok, h => nomatch (show false = true from h)
  | .ret _, cd, top, X, Wx, e, S, ok, h => nomatch (show false = true from h)
  | .ret0, cd, top, X, Wx, e, S, ok, h => nomatch (show false = true from h)
  | .ifS _ _ _, cd, top, X, Wx, e, S, ok, h => nomatch (show false = true from h)
  | .whl _ _, cd, top, X, Wx, e, S, ok, h => nomatch (show false = true from h)
  | .fr _ _ _, cd, top, X, Wx, e, S, ok, h => nomatch (show false = true from h)
  | .brk, cd, top, X, Wx, e, S, ok, h => nomatch (show false = true from h)
  | .cnt, cd, top, X, Wx, e, S, ok, h => nomatch (show false = true from h)
  | .pas, cd, top, X, Wx, e, S, ok, h => nomatch (show false = true from h)
  | .sno _ _ _, cd, top, X, Wx, e, S, ok, h => nomatch (show false = true from h)
  | .nev, cd, top, X, Wx, e, S, ok, h => nomatch (show false = true from h)
  | .seq _ _, cd, top, X, Wx, e, S, ok, h => nomatch (show false = true from h)
theorem sndW : ∀ (c : IR) {cd : Prop} {top : Bool} {X : Cx} {Wx : WX} {op : BoolOp} {es : List Expr} {pos : Pos}, Sd B T cls k X top cd Wx → okE B T cls k cd c → chkT X.N c X.env.scope top (.BoolOp op es pos) = true → PW X (.BoolOp op es pos) (DT (wd X T cls) Wx c)
  | .tOne a, cd, top, X, Wx, op, es, pos, S, ok, h => by
    rcases es with _ | ⟨x, _ | ⟨y, es⟩⟩ <;> first | (cases (show false = true from h); done) | skip
    simp only [chkT] at h
    cases op
    · exact t_and1 (sndT a S ok h)
    · exact t_or1 (sndT a S ok h)
  | .tAnd a r, cd, top, X, Wx, op, es, pos, S, ok, h => by
    cases op <;> rcases es with _ | ⟨x, _ | ⟨y, es⟩⟩ <;> first | (cases (show false = true from h); done) | skip
    simp only [chkT, Bool.and_eq_true] at h
    exact t_and (sndT a S ok.1 h.1) (sndW r S ok.2 h.2)
  | .tOr a r, cd, top, X, Wx, op, es, pos, S, ok, h => by
    cases op <;> rcases es with _ | ⟨x, _ | ⟨y, es⟩⟩ <;> first | (cases (show false = true from h); done) | skip
    simp only [chkT, Bool.and_eq_true] at h
    exact t_or (sndT a S ok.1 h.1) (sndW r S ok.2 h.2)
  | .tV a, cd, top, X, Wx, op, es, pos, S, ok, h => by
    simp [chkT, isPlainT] at h
  | .tnd f ev as, cd, top, X, Wx, op, es, pos, S, ok, h => by
    simp [chkT, isBoolE] at h
  | .nop, cd, top, X, Wx, op, es, pos, S, ok, h => nomatch (show false = true from h)
  | .var _, cd, top, X, Wx, op, es, pos, S, ok, h => nomatch (show false = true from h)
  | .con _, cd, top, X, Wx, op, es, pos, S, ok, h => nomatch (show false = true from h)
  | .glb _ _, cd, top, X, Wx, op, es, pos, S, ok, h => nomatch (show false = true from h)
  | .bty _, cd, top, X, Wx, op, es, pos, S, ok, h => nomatch (show false = true from h)
  | .bin _ _ _, cd, top, X, Wx, op, es, pos, S, ok, h => nomatch (show false = true from h)
  | .neg _, cd, top, X, Wx, op, es, pos, S, ok, h => nomatch (show false = true from h)
  | .cmp _ _ _, cd, top, X, Wx, op, es, pos, S, ok, h => nomatch (show false = true from h)
  | .chn _ _ _ _ _, cd, top, X, Wx, op, es, pos, S, ok, h => nomatch (show false = true from h)
  | .one _, cd, top, X, Wx, op, es, pos, S, ok, h => nomatch (show false = true from h)
  | .andV _ _, cd, top, X, Wx, op, es, pos, S, ok, h => nomatch (show false = true from h)
  | .orV _ _, cd, top, X, Wx, op, es, pos, S, ok, h => nomatch (show false = true from h)
  | .notV _, cd, top, X, Wx, op, es, pos, S, ok, h => nomatch (show false = true from h)
  | .ife _ _ _, cd, top, X, Wx, op, es, pos, S, ok, h => nomatch (show false = true from h)
  | .ix _ _, cd, top, X, Wx, op, es, pos, S, ok, h => nomatch (show false = true from h)
  | .sl _ _ _, cd, top, X, Wx, op, es, pos, S, ok, h => nomatch (show false = true from h)
  | .tupC _, cd, top, X, Wx, op, es, pos, S, ok, h => nomatch (show false = true from h)
  | .lstC _, cd, top, X, Wx, op, es, pos, S, ok, h => nomatch (show false = true from h)
  | .lstM _, cd, top, X, Wx, op, es, pos, S, ok, h => nomatch (show false = true from h)
  | .nil, cd, top, X, Wx, op, es, pos, S, ok, h => nomatch (show false = true from h)
  | .cons _ _, cd, top, X, Wx, op, es, pos, S, ok, h => nomatch (show false = true from h)
  | .cal _ _ _, cd, top, X, Wx, op, es, pos, S, ok, h => nomatch (show false = true from h)
  | .bme _ _ _ _ _ _, cd, top, X, Wx, op, es, pos, S, ok, h => nomatch (show false = true from h)
  | .mcl _ _ _ _, cd, top, X, Wx, op, es, pos, S, ok, h => nomatch (show false = true from h)
  | .lkE _ _, cd, top, X, Wx, op, es, pos, S, ok, h => nomatch (show false = true from h)
  | .lkS _ _, cd, top, X, Wx, op, es, pos, S, ok, h => nomatch (show false = true from h)
  | .itm _, cd, top, X, Wx, op, es, pos, S, ok, h => nomatch (show false = true from h)
  | .ien _, cd, top, X, Wx, op, es, pos, S, ok, h => nomatch (show false = true from h)
  | .cpr _ _ _ _ _, cd, top, X, Wx, op, es, pos, S, ok, h => nomatch (show false = true from h)
  | .dcp _ _ _ _ _, cd, top, X, Wx, op, es, pos, S, ok, h => nomatch (show false = true from h)
  | .frz _, cd, top, X, Wx, op, es, pos, S, ok, h => nomatch (show false = true from h)
  | .nod _ _ _, cd, top, X, Wx, op, es, pos, S, ok, h => nomatch (show false = true from h)
  | .tNot _, cd, top, X, Wx, op, es, pos, S, ok, h => nomatch (show false = true from h)
  | .ind _ _ _, cd, top, X, Wx, op, es, pos, S, ok, h => nomatch (show false = true from h)
  | .itV _, cd, top, X, Wx, op, es, pos, S, ok, h => nomatch (show false = true from h)
  | .itR1 _, cd, top, X, Wx, op, es, pos, S, ok, h => nomatch (show false = true from h)
  | .itR2 _ _, cd, top, X, Wx, op, es, pos, S, ok, h => nomatch (show false = true from h)
  | .gN _, cd, top, X, Wx, op, es, pos, S, ok, h => nomatch (show false = true from h)
  | .gT _ _, cd, top, X, Wx, op, es, pos, S, ok, h => nomatch (show false = true from h)
  | .gSub _ _, cd, top, X, Wx, op, es, pos, S, ok, h => nomatch (show false = true from h)
  | .asg _ _, cd, top, X, Wx, op, es, pos, S, ok, h => nomatch (show false = true from h)
  | .asc _ _, cd, top, X, Wx, op, es, pos, S, ok, h => nomatch (show false = true from h)
  | .exp _, cd, top, X, Wx, op, es, pos, S, ok, h => nomatch (show false = true from h)
  | .ret _, cd, top, X, Wx, op, es, pos, S, ok, h => nomatch (show false = true from h)
  | .ret0, cd, top, X, Wx, op, es, pos, S, ok, h => nomatch (show false = true from h)
  | .ifS _ _ _, cd, top, X, Wx, op, es, pos, S, ok, h => nomatch (show false = true from h)
  | .whl _ _, cd, top, X, Wx, op, es, pos, S, ok, h => nomatch (show false = true from h)
  | .fr _ _ _, cd, top, X, Wx, op, es, pos, S, ok, h => nomatch (show false = true from h)
  | .brk, cd, top, X, Wx, op, es, pos, S, ok, h => nomatch (show false = true from h)
  | .cnt, cd, top, X, Wx, op, es, pos, S, ok, h => nomatch (show false = true from h)
  | .pas, cd, top, X, Wx, op, es, pos, S, ok, h => nomatch (show false = true from h)
  | .sno _ _ _, cd, top, X, Wx, op, es, pos, S, ok, h => nomatch (show false = true from h)
  | .nev, cd, top, X, Wx, op, es, pos, S, ok, h => nomatch (show false = true from h)
  | .seq _ _, cd, top, X, Wx, op, es, pos, S, ok, h => nomatch (show false = true from h)
theorem sndI : ∀ (c : IR) {cd : Prop} {top : Bool} {X : Cx} {Wx : WX} {tg e : Expr}, Sd B T cls k X top cd Wx → okE B T cls k cd c → chkI X.N c X.env.scope top tg e = true → PI X tg e (DI (wd X T cls) Wx c)
  | .itV a, cd, top, X, Wx, tg, e, S, ok, h => by
    simp only [chkI] at h
    exact i_val (sndE a S ok h)
  | .itm a, cd, top, X, Wx, tg, e, S, ok, h => by
    cases e with
    | Call f es kws pos =>
      cases f with
      | Attribute x m apos =>
        rcases es with _ | ⟨e1, es⟩ <;> rcases kws with _ | ⟨_, _⟩ <;> first | (cases (show false = true from h); done) | skip
        simp only [chkI, Bool.and_eq_true, decide_eq_true_eq, Bool.not_eq_true'] at h
        obtain ⟨⟨⟨⟨h1, rfl⟩, h3⟩, h4⟩, h5⟩ := h
        cases tg <;> first | (cases (show false = true from h1); done) | skip
        exact i_itm (sndE a S ok h5) (base_of h3) h4
      | _ => cases (show false = true from h)
    | _ => cases (show false = true from h)
  | .ien a, cd, top, X, Wx, tg, e, S, ok, h => by
    cases e with
    | Call f es kws pos =>
      cases f with
      | Name y p =>
        rcases es with _ | ⟨e1, _ | ⟨e2, es⟩⟩ <;> rcases kws with _ | ⟨_, _⟩ <;> first | (cases (show false = true from h); done) | skip
        simp only [chkI, Bool.and_eq_true, decide_eq_true_eq, Bool.not_eq_true'] at h
        obtain ⟨⟨⟨⟨h1, rfl⟩, h2⟩, h3⟩, h4⟩ := h
        cases tg <;> first | (cases (show false = true from h1); done) | skip
        have hB := S.bs
        exact i_ien (gl_of h2) (show (Cx.bs X).mg "enumerate" = none from hB ▸ ok.1) (sndE a S ok.2 h4) (star_of h3)
      | _ => cases (show false = true from h)
    | _ => cases (show false = true from h)
  | .itR1 a, cd, top, X, Wx, tg, e, S, ok, h => by
    cases e with
    | Call f es kws pos =>
      cases f with
      | Name y p =>
        rcases es with _ | ⟨e1, _ | ⟨e2, es⟩⟩ <;> rcases kws with _ | ⟨_, _⟩ <;> first | (cases (show false = true from h); done) | skip
        simp only [chkI, Bool.and_eq_true, decide_eq_true_eq, Bool.not_eq_true'] at h
        obtain ⟨⟨⟨rfl, h2⟩, h3⟩, h4⟩ := h
        have hB := S.bs
        exact i_rng1 (gl_of h2) (show (Cx.bs X).mg "range" = none from hB ▸ ok.1) (sndE a S ok.2 h4) (star_of h3)
      | _ => cases (show false = true from h)
    | _ => cases (show false = true from h)
  | .itR2 a b, cd, top, X, Wx, tg, e, S, ok, h => by
    cases e with
    | Call f es kws pos =>
      cases f with
      | Name y p =>
        rcases es with _ | ⟨e1, _ | ⟨e2, _ | ⟨e3, es⟩⟩⟩ <;> rcases kws with _ | ⟨_, _⟩ <;> first | (cases (show false = true from h); done) | skip
        simp only [chkI, Bool.and_eq_true, decide_eq_true_eq, Bool.not_eq_true'] at h
        obtain ⟨⟨⟨⟨⟨rfl, h2⟩, h3⟩, h3'⟩, h4⟩, h5⟩ := h
        have hB := S.bs
        exact i_rng2 (gl_of h2) (show (Cx.bs X).mg "range" = none from hB ▸ ok.1) (sndE a S ok.2.1 h4) (sndE b S ok.2.2 h5) (by rw [star_of h3, star_of h3']; rfl) (star_of h3')
      | _ => cases (show false = true from h)
    | _ => cases (show false = true from h)
  | .ind f ev as, cd, top, X, Wx, tg, e, S, ok, h => by
    simp only [chkI] at h
    split at h
    · rename_i es he
      exact ok.1 X top Wx tg e es as S he (sndL as S ok.2 h)
    · cases h
  | .nop, cd, top, X, Wx, tg, e, S, ok, h => nomatch (show false = true from h)
  | .var _, cd, top, X, Wx, tg, e, S, ok, h => nomatch (show false = true from h)
  | .con _, cd, top, X, Wx, tg, e, S, ok, h => nomatch (show false = true from h)
  | .glb _ _, cd, top, X, Wx, tg, e, S, ok, h => nomatch (show false = true from h)
  | .bty _, cd, top, X, Wx, tg, e, S, ok, h => nomatch (show false = true from h)
  | .bin _ _ _, cd, top, X, Wx, tg, e, S, ok, h => nomatch (show false = true from h)
  | .neg _, cd, top, X, Wx, tg, e, S, ok, h => nomatch (show false = true from h)
  | .cmp _ _ _, cd, top, X, Wx, tg, e, S, ok, h => nomatch (show false = true from h)
  | .chn _ _ _ _ _, cd, top, X, Wx, tg, e, S, ok, h => nomatch (show false = true from h)
  | .one _, cd, top, X, Wx, tg, e, S, ok, h => nomatch (show false = true from h)
  | .andV _ _, cd, top, X, Wx, tg, e, S, ok, h => nomatch (show false = true from h)
  | .orV _ _, cd, top, X, Wx, tg, e, S, ok, h => nomatch (show false = true from h)
  | .notV _, cd, top, X, Wx, tg, e, S, ok, h => nomatch (show false = true from h)
  | .ife _ _ _, cd, top, X, Wx, tg, e, S, ok, h => nomatch (show false = true from h)
  | .ix _ _, cd, top, X, Wx, tg, e, S, ok, h => nomatch (show false = true from h)
  | .sl _ _ _, cd, top, X, Wx, tg, e, S, ok, h => nomatch (show false = true from h)
  | .tupC _, cd, top, X, Wx, tg, e, S, ok, h => nomatch (show false = true from h)
  | .lstC _, cd, top, X, Wx, tg, e, S, ok, h => nomatch (show false = true from h)
  | .lstM _, cd, top, X, Wx, tg, e, S, ok, h => nomatch (show false = true from h)
  | .nil, cd, top, X, Wx, tg, e, S, ok, h => nomatch (show false = true from h)
  | .cons _ _, cd, top, X, Wx, tg, e, S, ok, h => nomatch (show false = true from h)
  | .cal _ _ _, cd, top, X, Wx, tg, e, S, ok, h => nomatch (show false = true from h)
  | .bme _ _ _ _ _ _, cd, top, X, Wx, tg, e, S, ok, h => nomatch (show false = true from h)
  | .mcl _ _ _ _, cd, top, X, Wx, tg, e, S, ok, h => nomatch (show false = true from h)
  | .lkE _ _, cd, top, X, Wx, tg, e, S, ok, h => nomatch (show false = true from h)
  | .lkS _ _, cd, top, X, Wx, tg, e, S, ok, h => nomatch (show false = true from h)
  | .cpr _ _ _ _ _, cd, top, X, Wx, tg, e, S, ok, h => nomatch (show false = true from h)
  | .dcp _ _ _ _ _, cd, top, X, Wx, tg, e, S, ok, h => nomatch (show false = true from h)
  | .frz _, cd, top, X, Wx, tg, e, S, ok, h => nomatch (show false = true from h)
  | .nod _ _ _, cd, top, X, Wx, tg, e, S, ok, h => nomatch (show false = true from h)
  | .tV _, cd, top, X, Wx, tg, e, S, ok, h => nomatch (show false = true from h)
  | .tNot _, cd, top, X, Wx, tg, e, S, ok, h => nomatch (show false = true from h)
  | .tOne _, cd, top, X, Wx, tg, e, S, ok, h => nomatch (show false = true from h)
  | .tAnd _ _, cd, top, X, Wx, tg, e, S, ok, h => nomatch (show false = true from h)
  | .tOr _ _, cd, top, X, Wx, tg, e, S, ok, h => nomatch (show false = true from h)
  | .tnd _ _ _, cd, top, X, Wx, tg, e, S, ok, h => nomatch (show false = true from h)
  | .gN _, cd, top, X, Wx, tg, e, S, ok, h => nomatch (show false = true from h)
  | .gT _ _, cd, top, X, Wx, tg, e, S, ok, h => nomatch (show false = true from h)
  | .gSub _ _, cd, top, X, Wx, tg, e, S, ok, h => nomatch (show false = true from h)
  | .asg _ _, cd, top, X, Wx, tg, e, S, ok, h => nomatch (show false = true from h)
  | .asc _ _, cd, top, X, Wx, tg, e, S, ok, h => nomatch (show false = true from h)
  | .exp _, cd, top, X, Wx, tg, e, S, ok, h => nomatch (show false = true from h)
  | .ret _, cd, top, X, Wx, tg, e, S, ok, h => nomatch (show false = true from h)
  | .ret0, cd, top, X, Wx, tg, e, S, ok, h => nomatch (show false = true from h)
  | .ifS _ _ _, cd, top, X, Wx, tg, e, S, ok, h => nomatch (show false = true from h)
  | .whl _ _, cd, top, X, Wx, tg, e, S, ok, h => nomatch (show false = true from h)
  | .fr _ _ _, cd, top, X, Wx, tg, e, S, ok, h => nomatch (show false = true from h)
  | .brk, cd, top, X, Wx, tg, e, S, ok, h => nomatch (show false = true from h)
  | .cnt, cd, top, X, Wx, tg, e, S, ok, h => nomatch (show false = true from h)
  | .pas, cd, top, X, Wx, tg, e, S, ok, h => nomatch (show false = true from h)
  | .sno _ _ _, cd, top, X, Wx, tg, e, S, ok, h => nomatch (show false = true from h)
  | .nev, cd, top, X, Wx, tg, e, S, ok, h => nomatch (show false = true from h)
  | .seq _ _, cd, top, X, Wx, tg, e, S, ok, h => nomatch (show false = true from h)
theorem sndG : ∀ (c : IR) {cd : Prop} {top : Bool} {X : Cx} {Wx : WX} {e : Expr}, Sd B T cls k X top cd Wx → okE B T cls k cd c → chkG X.N c X.env.scope top e = true → PG X e (DG (wd X T cls) c)
  | .gN i, cd, top, X, Wx, e, S, ok, h => by
    cases e with
    | Name x pos =>
      simp only [chkG, Bool.and_eq_true, decide_eq_true_eq] at h
      obtain ⟨h1, h2⟩ := h
      unfold locB at h2
      split at h2
      · rename_i e1
        exact g_name S.g.nd h1 (.inl e1) (.inr e1)
      · rename_i e1
        exact g_name S.g.nd h1 (.inr e1) (.inl (S.g.fn h2 x e1))
      · cases h2
    | _ => cases (show false = true from h)
  | .gT n gs, cd, top, X, Wx, e, S, ok, h => by
    cases e with
    | Tuple es j pos =>
      simp only [chkG, Bool.and_eq_true, decide_eq_true_eq] at h
      have hs := starsG_of h.2
      exact g_tup S.g.calm (sndGs gs S ok h.2) (by rw [assignEach_len hs]; exact h.1) (assignEach_idx hs)
    | _ => cases (show false = true from h)
  | .gSub a b, cd, top, X, Wx, e, S, ok, h => by
    cases e with
    | Subscript x y pos =>
      simp only [chkG, Bool.and_eq_true, Bool.not_eq_true'] at h
      exact g_sub (Wx := Wx) S.g.room (sndE a S ok.1 h.1.2) (sndE b S ok.2 h.2) (assignSub h.1.1)
    | _ => cases (show false = true from h)
  | .nop, cd, top, X, Wx, e, S, ok, h => nomatch (show false = true from h)
  | .var _, cd, top, X, Wx, e, S, ok, h => nomatch (show false = true from h)
  | .con _, cd, top, X, Wx, e, S, ok, h => nomatch (show false = true from h)
  | .glb _ _, cd, top, X, Wx, e, S, ok, h => nomatch (show false = true from h)
  | .bty _, cd, top, X, Wx, e, S, ok, h => nomatch (show false = true from h)
  | .bin _ _ _, cd, top, X, Wx, e, S, ok, h => nomatch (show false = true from h)
  | .neg _, cd, top, X, Wx, e, S, ok, h => nomatch (show false = true from h)
  | .cmp _ _ _, cd, top, X, Wx, e, S, ok, h => nomatch (show false = true from h)
  | .chn _ _ _ _ _, cd, top, X, Wx, e, S, ok, h => nomatch (show false = true from h)
  | .one _, cd, top, X, Wx, e, S, ok, h => nomatch (show false = true from h)
  | .andV _ _, cd, top, X, Wx, e, S, ok, h => nomatch (show false = true from h)
  | .orV _ _, cd, top, X, Wx, e, S, ok, h => nomatch (show false = true from h)
  | .notV _, cd, top, X, Wx, e, S, ok, h => nomatch (show false = true from h)
  | .ife _ _ _, cd, top, X, Wx, e, S, ok, h => nomatch (show false = true from h)
  | .ix _ _, cd, top, X, Wx, e, S, ok, h => nomatch (show false = true from h)
  | .sl _ _ _, cd, top, X, Wx, e, S, ok, h => nomatch (show false = true from h)
  | .tupC _, cd, top, X, Wx, e, S, ok, h => nomatch (show false = true from h)
  | .lstC _, cd, top, X, Wx, e, S, ok, h => nomatch (show false = true from h)
  | .lstM _, cd, top, X, Wx, e, S, ok, h => nomatch (show false = true from h)
  | .nil, cd, top, X, Wx, e, S, ok, h => nomatch (show false = true from h)
  | .cons _ _, cd, top, X, Wx, e, S, ok, h => nomatch (show false = true from h)
  | .cal _ _ _, cd, top, X, Wx, e, S, ok, h => nomatch (show false = true from h)
  | .bme _ _ _ _ _ _, cd, top, X, Wx, e, S, ok, h => nomatch (show false = true from h)
  | .mcl _ _ _ _, cd, top, X, Wx, e, S, ok, h => nomatch (show false = true from h)
  | .lkE _ _, cd, top, X, Wx, e, S, ok, h => nomatch (show false = true from h)
  | .lkS _ _, cd, top, X, Wx, e, S, ok, h => nomatch (show false = true from h)
  | .itm _, cd, top, X, Wx, e, S, ok, h => nomatch (show false = true from h)
  | .ien _, cd, top, X, Wx, e, S, ok, h => nomatch (show false = true from h)
  | .cpr _ _ _ _ _, cd, top, X, Wx, e, S, ok, h => nomatch (show false = true from h)
  | .dcp _ _ _ _ _, cd, top, X, Wx, e, S, ok, h => nomatch (show false = true from h)
  | .frz _, cd, top, X, Wx, e, S, ok, h => nomatch (show false = true from h)
  | .nod _ _ _, cd, top, X, Wx, e, S, ok, h => nomatch (show false = true from h)
  | .tV _, cd, top, X, Wx, e, S, ok, h => nomatch (show false = true from h)
  | .tNot _, cd, top, X, Wx, e, S, ok, h => nomatch (show false = true from h)
  | .tOne _, cd, top, X, Wx, e, S, ok, h => nomatch (show false = true from h)
  | .tAnd _ _, cd, top, X, Wx, e, S, ok, h => nomatch (show false = true from h)
  | .tOr _ _, cd, top, X, Wx, e, S, ok, h => nomatch (show false = true from h)
  | .tnd _ _ _, cd, top, X, Wx, e, S, ok, h => nomatch (show false = true from h)
  | .ind _ _ _, cd, top, X, Wx, e, S, ok, h => nomatch (show false = true from h)
  | .itV _, cd, top, X, Wx, e, S, ok, h => nomatch (show false = true from h)
  | .itR1 _, cd, top, X, Wx, e, S, ok, h => nomatch (show false = true from h)
  | .itR2 _ _, cd, top, X, Wx, e, S, ok, h => nomatch (show false = true from h)
  | .asg _ _, cd, top, X, Wx, e, S, ok, h => nomatch (show false = true from h)
  | .asc _ _, cd, top, X, Wx, e, S, ok, h => nomatch (show false = true from h)
  | .exp _, cd, top, X, Wx, e, S, ok, h => nomatch (show false = true from h)
  | .ret _, cd, top, X, Wx, e, S, ok, h => nomatch (show false = true from h)
  | .ret0, cd, top, X, Wx, e, S, ok, h => nomatch (show false = true from h)
  | .ifS _ _ _, cd, top, X, Wx, e, S, ok, h => nomatch (show false = true from h)
  | .whl _ _, cd, top, X, Wx, e, S, ok, h => nomatch (show false = true from h)
  | .fr _ _ _, cd, top, X, Wx, e, S, ok, h => nomatch (show false = true from h)
  | .brk, cd, top, X, Wx, e, S, ok, h => nomatch (show false = true from h)
  | .cnt, cd, top, X, Wx, e, S, ok, h => nomatch (show false = true from h)
  | .pas, cd, top, X, Wx, e, S, ok, h => nomatch (show false = true from h)
  | .sno _ _ _, cd, top, X, Wx, e, S, ok, h => nomatch (show false = true from h)
  | .nev, cd, top, X, Wx, e, S, ok, h => nomatch (show false = true from h)
  | .seq _ _, cd, top, X, Wx, e, S, ok, h => nomatch (show false = true from h)
theorem sndGs : ∀ (c : IR) {cd : Prop} {top : Bool} {X : Cx} {Wx : WX} {es : List Expr}, Sd B T cls k X top cd Wx → okE B T cls k cd c → chkGs X.N c X.env.scope top es = true → PGs X es (DGs (wd X T cls) c)
  | .nil, cd, top, X, Wx, es, S, ok, h => by
    cases es with
    | nil => exact gs_nil
    | cons _ _ => cases (show false = true from h)
  | .cons a r, cd, top, X, Wx, es, S, ok, h => by
    cases es with
    | nil => cases (show false = true from h)
    | cons e es =>
      simp only [chkGs, Bool.and_eq_true, Bool.not_eq_true'] at h
      exact gs_cons (sndG a S ok.1 h.1.2) (sndGs r S ok.2 h.2) (by rw [assignEach_of h.1.1]; rfl)
  | .nop, cd, top, X, Wx, es, S, ok, h => nomatch (show false = true from h)
  | .var _, cd, top, X, Wx, es, S, ok, h => nomatch (show false = true from h)
  | .con _, cd, top, X, Wx, es, S, ok, h => nomatch (show false = true from h)
  | .glb _ _, cd, top, X, Wx, es, S, ok, h => nomatch (show false = true from h)
  | .bty _, cd, top, X, Wx, es, S, ok, h => nomatch (show false = true from h)
  | .bin _ _ _, cd, top, X, Wx, es, S, ok, h => nomatch (show false = true from h)
  | .neg _, cd, top, X, Wx, es, S, ok, h => nomatch (show false = true from h)
  | .cmp _ _ _, cd, top, X, Wx, es, S, ok, h => nomatch (show false = true from h)
  | .chn _ _ _ _ _, cd, top, X, Wx, es, S, ok, h => nomatch (show false = true from h)
  | .one _, cd, top, X, Wx, es, S, ok, h => nomatch (show false = true from h)
  | .andV _ _, cd, top, X, Wx, es, S, ok, h => nomatch (show false = true from h)
  | .orV _ _, cd, top, X, Wx, es, S, ok, h => nomatch (show false = true from h)
  | .notV _, cd, top, X, Wx, es, S, ok, h => nomatch (show false = true from h)
  | .ife _ _ _, cd, top, X, Wx, es, S, ok, h => nomatch (show false = true from h)
  | .ix _ _, cd, top, X, Wx, es, S, ok, h => nomatch (show false = true from h)
  | .sl _ _ _, cd, top, X, Wx, es, S, ok, h => nomatch (show false = true from h)
  | .tupC _, cd, top, X, Wx, es, S, ok, h => nomatch (show false = true from h)
  | .lstC _, cd, top, X, Wx, es, S, ok, h => nomatch (show false = true from h)
  | .lstM _, cd, top, X, Wx, es, S, ok, h => nomatch (show false = true from h)
  | .cal _ _ _, cd, top, X, Wx, es, S, ok, h => nomatch (show false = true from h)
  | .bme _ _ _ _ _ _, cd, top, X, Wx, es, S, ok, h => nomatch (show false = true from h)
  | .mcl _ _ _ _, cd, top, X, Wx, es, S, ok, h => nomatch (show false = true from h)
  | .lkE _ _, cd, top, X, Wx, es, S, ok, h => nomatch (show false = true from h)
  | .lkS _ _, cd, top, X, Wx, es, S, ok, h => nomatch (show false = true from h)
  | .itm _, cd, top, X, Wx, es, S, ok, h => nomatch (show false = true from h)
  | .ien _, cd, top, X, Wx, es, S, ok, h => nomatch (show false = true from h)
  | .cpr _ _ _ _ _, cd, top, X, Wx, es, S, ok, h => nomatch (show false = true from h)
  | .dcp _ _ _ _ _, cd, top, X, Wx, es, S, ok, h => nomatch (show false = true from h)
  | .frz _, cd, top, X, Wx, es, S, ok, h => nomatch (show false = true from h)
  | .nod _ _ _, cd, top, X, Wx, es, S, ok, h => nomatch (show false = true from h)
  | .tV _, cd, top, X, Wx, es, S, ok, h => nomatch (show false = true from h)
  | .tNot _, cd, top, X, Wx, es, S, ok, h => nomatch (show false = true from h)
  | .tOne _, cd, top, X, Wx, es, S, ok, h => nomatch (show false = true from h)
  | .tAnd _ _, cd, top, X, Wx, es, S, ok, h => nomatch (show false = true from h)
  | .tOr _ _, cd, top, X, Wx, es, S, ok, h => nomatch (show false = true from h)
  | .tnd _ _ _, cd, top, X, Wx, es, S, ok, h => nomatch (show false = true from h)
  | .ind _ _ _, cd, top, X, Wx, es, S, ok, h => nomatch (show false = true from h)
  | .itV _, cd, top, X, Wx, es, S, ok, h => nomatch (show false = true from h)
  | .itR1 _, cd, top, X, Wx, es, S, ok, h => nomatch (show false = true from h)
  | .itR2 _ _, cd, top, X, Wx, es, S, ok, h => nomatch (show false = true from h)
  | .gN _, cd, top, X, Wx, es, S, ok, h => nomatch (show false = true from h)
  | .gT _ _, cd, top, X, Wx, es, S, ok, h => nomatch (show false = true from h)
  | .gSub _ _, cd, top, X, Wx, es, S, ok, h => nomatch (show false = true from h)
  | .asg _ _, cd, top, X, Wx, es, S, ok, h => nomatch (show false = true from h)
  | .asc _ _, cd, top, X, Wx, es, S, ok, h => nomatch (show false = true from h)
  | .exp _, cd, top, X, Wx, es, S, ok, h => nomatch (show false = true from h)
  | .ret _, cd, top, X, Wx, es, S, ok, h => nomatch (show false = true from h)
  | .ret0, cd, top, X, Wx, es, S, ok, h => nomatch (show false = true from h)
  | .ifS _ _ _, cd, top, X, Wx, es, S, ok, h => nomatch (show false = true from h)
  | .whl _ _, cd, top, X, Wx, es, S, ok, h => nomatch (show false = true from h)
  | .fr _ _ _, cd, top, X, Wx, es, S, ok, h => nomatch (show false = true from h)
  | .brk, cd, top, X, Wx, es, S, ok, h => nomatch (show false = true from h)
  | .cnt, cd, top, X, Wx, es, S, ok, h => nomatch (show false = true from h)
  | .pas, cd, top, X, Wx, es, S, ok, h => nomatch (show false = true from h)
  | .sno _ _ _, cd, top, X, Wx, es, S, ok, h => nomatch (show false = true from h)
  | .nev, cd, top, X, Wx, es, S, ok, h => nomatch (show false = true from h)
  | .seq _ _, cd, top, X, Wx, es, S, ok, h => nomatch (show false = true from h)
end
end
end M
end
section
namespace M
open PySem PySem.Spec PyProof.Rows L2
def okS (B : Bs) (T : List Addr) (cls : Nat → Addr) (k : Nat) (cd : Prop) : IR → Prop
  | .ifS t a b => okE B T cls k cd t ∧ okS B T cls k cd a ∧ okS B T cls k cd b
  | .whl t b => okE B T cls k cd t ∧ okS B T cls k cd b
  | .fr g it b => okE B T cls k cd g ∧ okE B T cls k cd it ∧ okS B T cls k cd b
  | .seq a b => okS B T cls k cd a ∧ okS B T cls k cd b
  | .lkS _ a => okS B T cls k cd a
  | c => okE B T cls k cd c
section
variable {B : Bs} {T : List Addr} {cls : Nat → Addr} {k : Nat}
theorem snd_asc {i : Nat} {c : IR} {cd : Prop} {X : Cx} {Wx : WX} {st : Stmt} (S : Sd B T cls k X true cd Wx) (ok : okS B T cls k cd (.asc i c)) (h : chkS X.N (.asc i c) X.env.scope st = true) : PS X st (DS (wd X T cls) Wx (.asc i c)) := by
  cases c with
  | cpr own g it t e =>
    cases st with
    | Assign ts v pos =>
      cases ts with
      | nil => cases (show false = true from h)
      | cons t' ts =>
        cases t' with
        | Name y py =>
          cases ts with
          | cons _ _ => cases (show false = true from h)
          | nil =>
            cases v with
            | ListComp elt gs scope vpos =>
              cases gs with
              | nil => cases (show false = true from h)
              | cons g1 gs =>
                obtain ⟨tg, iter, ifs, as⟩ := g1
                cases gs with
                | cons _ _ => cases (show false = true from h)
                | nil =>
                  simp only [chkS, Bool.and_eq_true, Bool.not_eq_true', List.all_eq_true, decide_eq_true_eq] at h
                  obtain ⟨⟨⟨⟨⟨⟨⟨⟨⟨⟨⟨rfl, h1⟩, h2⟩, h3⟩, h4⟩, h5⟩, h6⟩, h7⟩, h8⟩, h9⟩, h10⟩, h11⟩ := h
                  have hk : X.env.scope.kind = .function := S.kind rfl
                  exact s_asc S.g.calm S.g.nd h1 h2 (sw_true hk h2 h3 h4) (sndI it S ok.1 h8) (blkOk_by h5) h6 (fun s H C cl fp => pgN S.g.nd rfl h9 fun h9 => sndG g (S.blk s H scope _ fp) ok.2.1 h9) (fun s H C cl fp => tests_of (fun e he => sndT t (S.blk s H scope _ fp) ok.2.2.1 he) h10) (fun s H C cl fp => sndE e (S.blk s H scope _ fp) ok.2.2.2 h11) (set_of h7)
            | _ => cases (show false = true from h)
        | _ => cases (show false = true from h)
    | _ => cases (show false = true from h)
  | _ => cases st <;> cases (show false = true from h)
mutual
theorem sndS : ∀ (c : IR) {cd : Prop} {X : Cx} {Wx : WX} {st : Stmt}, Sd B T cls k X true cd Wx → PassesOwn (model X.prog X.w) X.A X.env X.xe → okS B T cls k cd c → chkS X.N c X.env.scope st = true → PS X st (DS (wd X T cls) Wx c)
  | .asg g e, cd, X, Wx, st, S, po, ok, h => by
    cases st with
    | Assign ts v pos =>
      rcases ts with _ | ⟨t, _ | ⟨t', ts⟩⟩ <;> first | (cases (show false = true from h); done) | skip
      simp only [chkS, Bool.and_eq_true, Bool.not_eq_true'] at h
      obtain ⟨⟨⟨h1, h2⟩, h3⟩, h4⟩ := h
      have ns : isStar t = false := by cases t <;> first | rfl | (cases g <;> cases (show false = true from h3))
      exact s_asg (sndE e S ok.2 h4) (sndG g S ok.1 h3) (swap_of h2) (stores_or h1) (by rw [assignEach_of ns]; rfl)
    | _ => cases (show false = true from h)
  | .exp e, cd, X, Wx, st, S, po, ok, h => by
    cases st with
    | Expr v pos =>
      simp only [chkS, Bool.and_eq_true, Bool.not_eq_true'] at h
      exact s_exp (sndE e S ok h.2) (swap_of h.1)
    | _ => cases (show false = true from h)
  | .ret e, cd, X, Wx, st, S, po, ok, h => by
    cases st with
    | Return v pos =>
      cases v with
      | some v => exact s_ret (sndE e S ok h)
      | none => cases (show false = true from h)
    | _ => cases (show false = true from h)
  | .ret0, cd, X, Wx, st, S, po, ok, h => by
    cases st with
    | Return v pos =>
      cases v with
      | none => exact s_ret0
      | some v => cases (show false = true from h)
    | _ => cases (show false = true from h)
  | .ifS t a b, cd, X, Wx, st, S, po, ok, h => by
    cases st with
    | If c x y pos =>
      simp only [chkS, Bool.and_eq_true] at h
      exact s_if (sndT t S ok.1 h.1.1) (sndB a S po ok.2.1 h.1.2) (sndB b S po ok.2.2 h.2)
    | _ => cases (show false = true from h)
  | .whl t b, cd, X, Wx, st, S, po, ok, h => by
    cases st with
    | While c x y pos =>
      cases y with
      | nil =>
        simp only [chkS, Bool.and_eq_true] at h
        exact s_whl po (sndT t S ok.1 h.1) (sndB b S po ok.2 h.2)
      | cons _ _ => cases (show false = true from h)
    | _ => cases (show false = true from h)
  | .fr g it b, cd, X, Wx, st, S, po, ok, h => by
    cases st with
    | For tg iter x y pos =>
      cases y with
      | nil =>
        simp only [chkS, Bool.and_eq_true, Bool.not_eq_true'] at h
        exact s_for po S.g.calm (sndI it S ok.2.1 h.1.1.2) (sndG g S ok.1 h.1.2) (sndB b S po ok.2.2 h.2) (set_of h.1.1.1)
      | cons _ _ => cases (show false = true from h)
    | _ => cases (show false = true from h)
  | .brk, cd, X, Wx, st, S, po, ok, h => by
    cases st with
    | Break pos => exact s_brk
    | _ => cases (show false = true from h)
  | .cnt, cd, X, Wx, st, S, po, ok, h => by
    cases st with
    | Continue pos => exact s_cnt
    | _ => cases (show false = true from h)
  | .pas, cd, X, Wx, st, S, po, ok, h => by
    cases st with
    | Pass pos => exact s_pas
    | _ => cases (show false = true from h)
  | .nev, cd, X, Wx, st, S, po, ok, h => s_nev
  | .asc i c, cd, X, Wx, st, S, po, ok, h => snd_asc S ok h
  | .lkS i s, cd, X, Wx, st, S, po, ok, h => by
    simp only [chkS] at h
    exact s_lkS (sndS s S po ok h)
  | .sno f ev as, cd, X, Wx, st, S, po, ok, h => by
    simp only [chkS] at h
    split at h
    · rename_i es he
      exact ok.1 X Wx st es as S he (sndL as S ok.2 h)
    · cases h
  | .nop, cd, X, Wx, st, S, po, ok, h => nomatch (show false = true from h)
  | .var _, cd, X, Wx, st, S, po, ok, h => nomatch (show false = true from h)
  | .con _, cd, X, Wx, st, S, po, ok, h => nomatch (show false = true from h)
  | .glb _ _, cd, X, Wx, st, S, po, ok, h => nomatch (show false = true from h)
  | .bty _, cd, X, Wx, st, S, po, ok, h => nomatch (show false = true from h)
  | .bin _ _ _, cd, X, Wx, st, S, po, ok, h => nomatch (show false = true from h)
  | .neg _, cd, X, Wx, st, S, po, ok, h => nomatch (show false = true from h)
  | .cmp _ _ _, cd, X, Wx, st, S, po, ok, h => nomatch (show false = true from h)
  | .chn _ _ _ _ _, cd, X, Wx, st, S, po, ok, h => nomatch (show false = true from h)
  | .one _, cd, X, Wx, st, S, po, ok, h => nomatch (show false = true from h)
  | .andV _ _, cd, X, Wx, st, S, po, ok, h => nomatch (show false = true from h)
  | .orV _ _, cd, X, Wx, st, S, po, ok, h => nomatch (show false = true from h)
  | .notV _, cd, X, Wx, st, S, po, ok, h => nomatch (show false = true from h)
  | .ife _ _ _, cd, X, Wx, st, S, po, ok, h => nomatch (show false = true from h)
  | .ix _ _, cd, X, Wx, st, S, po, ok, h => nomatch (show false = true from h)
  | .sl _ _ _, cd, X, Wx, st, S, po, ok, h => nomatch (show false = true from h)
  | .tupC _, cd, X, Wx, st, S, po, ok, h => nomatch (show false = true from h)
  | .lstC _, cd, X, Wx, st, S, po, ok, h => nomatch (show false = true from h)
  | .lstM _, cd, X, Wx, st, S, po, ok, h => nomatch (show false = true from h)
  | .nil, cd, X, Wx, st, S, po, ok, h => nomatch (show false = true from h)
  | .cons _ _, cd, X, Wx, st, S, po, ok, h => nomatch (show false = true from h)
  | .cal _ _ _, cd, X, Wx, st, S, po, ok, h => nomatch (show false = true from h)
  | .bme _ _ _ _ _ _, cd, X, Wx, st, S, po, ok, h => nomatch (show false = true from h)
  | .mcl _ _ _ _, cd, X, Wx, st, S, po, ok, h => nomatch (show false = true from h)
  | .lkE _ _, cd, X, Wx, st, S, po, ok, h => nomatch (show false = true from h)
  | .itm _, cd, X, Wx, st, S, po, ok, h => nomatch (show false = true from h)
  | .ien _, cd, X, Wx, st, S, po, ok, h => nomatch (show false = true from h)
  | .cpr _ _ _ _ _, cd, X, Wx, st, S, po, ok, h => nomatch (show false = true from h)
  | .dcp _ _ _ _ _, cd, X, Wx, st, S, po, ok, h => nomatch (show false = true from h)
  | .frz _, cd, X, Wx, st, S, po, ok, h => nomatch (show false = true from h)
  | .nod _ _ _, cd, X, Wx, st, S, po, ok, h => nomatch (show false = true from h)
  | .tV _, cd, X, Wx, st, S, po, ok, h => nomatch (show false = true from h)
  | .tNot _, cd, X, Wx, st, S, po, ok, h => nomatch (show false = true from h)
  | .tOne _, cd, X, Wx, st, S, po, ok, h => nomatch (show false = true from h)
  | .tAnd _ _, cd, X, Wx, st, S, po, ok, h => nomatch (show false = true from h)
  | .tOr _ _, cd, X, Wx, st, S, po, ok, h => nomatch (show false = true from h)
  | .tnd _ _ _, cd, X, Wx, st, S, po, ok, h => nomatch (show false = true from h)
  | .ind _ _ _, cd, X, Wx, st, S, po, ok, h => nomatch (show false = true from h)
  | .itV _, cd, X, Wx, st, S, po, ok, h => nomatch (show false = true from h)
  | .itR1 _, cd, X, Wx, st, S, po, ok, h => nomatch (show false = true from h)
  | .itR2 _ _, cd, X, Wx, st, S, po, ok, h => nomatch (show false = true from h)
  | .gN _, cd, X, Wx, st, S, po, ok, h => nomatch (show false = true from h)
  | .gT _ _, cd, X, Wx, st, S, po, ok, h => nomatch (show false = true from h)
  | .gSub _ _, cd, X, Wx, st, S, po, ok, h => nomatch (show false = true from h)
  | .seq _ _, cd, X, Wx, st, S, po, ok, h => nomatch (show false = true from h)
theorem sndB : ∀ (c : IR) {cd : Prop} {X : Cx} {Wx : WX} {sts : List Stmt}, Sd B T cls k X true cd Wx → PassesOwn (model X.prog X.w) X.A X.env X.xe → okS B T cls k cd c → chkB X.N c X.env.scope sts = true → PSs X sts (DS (wd X T cls) Wx c)
  | .nil, cd, X, Wx, sts, S, po, ok, h => by
    cases sts with
    | nil => exact s_nil
    | cons _ _ => cases (show false = true from h)
  | .seq s r, cd, X, Wx, sts, S, po, ok, h => by
    cases sts with
    | nil => cases (show false = true from h)
    | cons st rest =>
      simp only [chkB, Bool.and_eq_true] at h
      exact s_seq (sndS s S po ok.1 h.1) (sndB r S po ok.2 h.2)
  | .nop, cd, X, Wx, sts, S, po, ok, h => nomatch (show false = true from h)
  | .var _, cd, X, Wx, sts, S, po, ok, h => nomatch (show false = true from h)
  | .con _, cd, X, Wx, sts, S, po, ok, h => nomatch (show false = true from h)
  | .glb _ _, cd, X, Wx, sts, S, po, ok, h => nomatch (show false = true from h)
  | .bty _, cd, X, Wx, sts, S, po, ok, h => nomatch (show false = true from h)
  | .bin _ _ _, cd, X, Wx, sts, S, po, ok, h => nomatch (show false = true from h)
  | .neg _, cd, X, Wx, sts, S, po, ok, h => nomatch (show false = true from h)
  | .cmp _ _ _, cd, X, Wx, sts, S, po, ok, h => nomatch (show false = true from h)
  | .chn _ _ _ _ _, cd, X, Wx, sts, S, po, ok, h => nomatch (show false = true from h)
  | .one _, cd, X, Wx, sts, S, po, ok, h => nomatch (show false = true from h)
  | .andV _ _, cd, X, Wx, sts, S, po, ok, h => nomatch (show false = true from h)
  | .orV _ _, cd, X, Wx, sts, S, po, ok, h => nomatch (show false = true from h)
  | .notV _, cd, X, Wx, sts, S, po, ok, h => nomatch (show false = true from h)
  | .ife _ _ _, cd, X, Wx, sts, S, po, ok, h => nomatch (show false = true from h)
  | .ix _ _, cd, X, Wx, sts, S, po, ok, h => nomatch (show false = true from h)
  | .sl _ _ _, cd, X, Wx, sts, S, po, ok, h => nomatch (show false = true from h)
  | .tupC _, cd, X, Wx, sts, S, po, ok, h => nomatch (show false = true from h)
  | .lstC _, cd, X, Wx, sts, S, po, ok, h => nomatch (show false = true from h)
  | .lstM _, cd, X, Wx, sts, S, po, ok, h => nomatch (show false = true from h)
  | .cons _ _, cd, X, Wx, sts, S, po, ok, h => nomatch (show false = true from h)
  | .cal _ _ _, cd, X, Wx, sts, S, po, ok, h => nomatch (show false = true from h)
  | .bme _ _ _ _ _ _, cd, X, Wx, sts, S, po, ok, h => nomatch (show false = true from h)
  | .mcl _ _ _ _, cd, X, Wx, sts, S, po, ok, h => nomatch (show false = true from h)
  | .lkE _ _, cd, X, Wx, sts, S, po, ok, h => nomatch (show false = true from h)
  | .lkS _ _, cd, X, Wx, sts, S, po, ok, h => nomatch (show false = true from h)
  | .itm _, cd, X, Wx, sts, S, po, ok, h => nomatch (show false = true from h)
  | .ien _, cd, X, Wx, sts, S, po, ok, h => nomatch (show false = true from h)
  | .cpr _ _ _ _ _, cd, X, Wx, sts, S, po, ok, h => nomatch (show false = true from h)
  | .dcp _ _ _ _ _, cd, X, Wx, sts, S, po, ok, h => nomatch (show false = true from h)
  | .frz _, cd, X, Wx, sts, S, po, ok, h => nomatch (show false = true from h)
  | .nod _ _ _, cd, X, Wx, sts, S, po, ok, h => nomatch (show false = true from h)
  | .tV _, cd, X, Wx, sts, S, po, ok, h => nomatch (show false = true from h)
  | .tNot _, cd, X, Wx, sts, S, po, ok, h => nomatch (show false = true from h)
  | .tOne _, cd, X, Wx, sts, S, po, ok, h => nomatch (show false = true from h)
  | .tAnd _ _, cd, X, Wx, sts, S, po, ok, h => nomatch (show false = true from h)
  | .tOr _ _, cd, X, Wx, sts, S, po, ok, h => nomatch (show false = true from h)
  | .tnd _ _ _, cd, X, Wx, sts, S, po, ok, h => nomatch (show false = true from h)
  | .ind _ _ _, cd, X, Wx, sts, S, po, ok, h => nomatch (show false = true from h)
  | .itV _, cd, X, Wx, sts, S, po, ok, h => nomatch (show false = true from h)
  | .itR1 _, cd, X, Wx, sts, S, po, ok, h => nomatch (show false = true from h)
  | .itR2 _ _, cd, X, Wx, sts, S, po, ok, h => nomatch (show false = true from h)
  | .gN _, cd, X, Wx, sts, S, po, ok, h => nomatch (show false = true from h)
  | .gT _ _, cd, X, Wx, sts, S, po, ok, h => nomatch (show false = true from h)
  | .gSub _ _, cd, X, Wx, sts, S, po, ok, h => nomatch (show false = true from h)
  | .asg _ _, cd, X, Wx, sts, S, po, ok, h => nomatch (show false = true from h)
  | .asc _ _, cd, X, Wx, sts, S, po, ok, h => nomatch (show false = true from h)
  | .exp _, cd, X, Wx, sts, S, po, ok, h => nomatch (show false = true from h)
  | .ret _, cd, X, Wx, sts, S, po, ok, h => nomatch (show false = true from h)
  | .ret0, cd, X, Wx, sts, S, po, ok, h => nomatch (show false = true from h)
  | .ifS _ _ _, cd, X, Wx, sts, S, po, ok, h => nomatch (show false = true from h)
  | .whl _ _, cd, X, Wx, sts, S, po, ok, h => nomatch (show false = true from h)
  | .fr _ _ _, cd, X, Wx, sts, S, po, ok, h => nomatch (show false = true from h)
  | .brk, cd, X, Wx, sts, S, po, ok, h => nomatch (show false = true from h)
  | .cnt, cd, X, Wx, sts, S, po, ok, h => nomatch (show false = true from h)
  | .pas, cd, X, Wx, sts, S, po, ok, h => nomatch (show false = true from h)
  | .sno _ _ _, cd, X, Wx, sts, S, po, ok, h => nomatch (show false = true from h)
  | .nev, cd, X, Wx, sts, S, po, ok, h => nomatch (show false = true from h)
end
mutual
def objB (n : Nat) : D → Bool
  | .tup ds => objBs n ds
  | .lst ds => objBs n ds
  | .scr ds => objBs n ds
  | .obj k => decide (k < n)
  | _ => true
def objBs (n : Nat) : List D → Bool
  | [] => true
  | d :: ds => objB n d && objBs n ds
end
mutual
theorem Rep.down {K : PySem.W.Frag} {w w' : Vw} (hx : Ext w.G w'.G) (hr : ∀ k, k < w'.n → w'.ρ k = w.ρ k) : ∀ {d : D} {v : V}, Rep K w d v → objB w'.n d = true → Rep K w' d v
  | .non, _, h, _ => h
  | .bl _, _, h, _ => h
  | .int _, _, h, _ => h
  | .str _, _, h, _ => h
  | .ty _, _, h, _ => h
  | .fn _, _, h, _ => h
  | .tup _, _, ⟨a, xs, e, s, r⟩, p => ⟨a, xs, e, hx.sqt s, Reps.down hx hr r p⟩
  | .lst _, _, ⟨a, xs, e, s, r⟩, p => ⟨a, xs, e, hx.at s (fun _ z => by cases z), Reps.down hx hr r p⟩
  | .scr _, _, ⟨a, xs, e, s, r⟩, p => ⟨a, xs, e, hx.sql s, Reps.down hx hr r p⟩
  | .obj k, _, ⟨_, e⟩, p => by
    have p : k < w'.n := of_decide_eq_true p
    exact ⟨p, by rw [hr k p]; exact e⟩
theorem Reps.down {K : PySem.W.Frag} {w w' : Vw} (hx : Ext w.G w'.G) (hr : ∀ k, k < w'.n → w'.ρ k = w.ρ k) : ∀ {ds : List D} {xs : List V}, Reps K w ds xs → objBs w'.n ds = true → Reps K w' ds xs
  | [], _, h, _ => h
  | _ :: _, _, ⟨x, r, e, h, t⟩, p => by
    have p : (objB w'.n _ && objBs w'.n _) = true := p
    rw [Bool.and_eq_true] at p
    exact ⟨x, r, e, Rep.down hx hr h p.1, Reps.down hx hr t p.2⟩
end
def cellB (n : Nat) : Cell → Bool
  | .lst ds => objBs n ds
  | .dct kvs => objBs n (kvs.map (·.2))
  | .lck kvs _ _ => objBs n (kvs.map (·.2))
  | .ins _ fs => objBs n (fs.map (·.2))
theorem RepP.down {κ : Type} {K : PySem.W.Frag} {w w' : Vw} (hx : Ext w.G w'.G) (hr : ∀ k, k < w'.n → w'.ρ k = w.ρ k) : ∀ {ds : List (κ × D)} {xs : List (κ × V)}, RepP K w ds xs → objBs w'.n (ds.map (·.2)) = true → RepP K w' ds xs
  | [], _, h, _ => h
  | (_, _) :: _, _, ⟨x, r, e, h, t⟩, p => by
    have p : (objB w'.n _ && objBs w'.n _) = true := p
    rw [Bool.and_eq_true] at p
    exact ⟨x, r, e, Rep.down hx hr h p.1, RepP.down hx hr t p.2⟩
structure Sto.Part (μ1 μ : Sto) : Prop where
  nx : μ1.next ≤ μ.next
  sub : ∀ j c, μ1.cell j = some c → μ.cell j = some c ∧ j < μ1.next ∧ cellB μ1.next c = true
theorem Rl.part {W : Wd} {S : Ss} {μ1 : Sto} (R : Rl W S) (h : μ1.Part S.μ) : Ext (hid S) (hid { S with μ := μ1 }) ∧ Rl W { S with μ := μ1 } := by
  have ex : ∀ a u, hid S a = some u → hid { S with μ := μ1 } a = some u := fun a u e => by
    obtain ⟨e1, e2⟩ := hid_some.mp e
    refine hid_some.mpr ⟨e1, ?_⟩
    rintro (⟨j, d, e, h3⟩ | h3)
    · exact e2 (.inl ⟨j, d, (h.sub j d e).1, h3⟩)
    · exact e2 (.inr h3)
  have hx : Ext (hid S) (hid { S with μ := μ1 }) := Ext.of_ex ex
  refine ⟨hx, fun i j d e h1 h2 h3 => R.inj i j d e (h.sub _ _ h1).1 (h.sub _ _ h2).1 h3, fun j d e => (h.sub _ _ e).2.1, fun j d e => ?_, fun a ha => tab_ext hx (R.tab a ha), fun a u e => ⟨(R.prv a u e).1, fun j d e2 => (R.prv a u e).2 j d (h.sub _ _ e2).1⟩, lam_ex R.lam ex⟩
  obtain ⟨q1, q2, q3⟩ := h.sub j d e
  have q := R.ok j d q1
  cases d with
  | lst ds => obtain ⟨xs, e1, r⟩ := q; exact ⟨xs, e1, Reps.down (w := S.vw) (w' := Ss.vw { S with μ := μ1 }) hx (fun _ _ => rfl) r q3⟩
  | dct kvs => obtain ⟨xs, e1, r⟩ := q; exact ⟨xs, e1, RepP.down (w := S.vw) (w' := Ss.vw { S with μ := μ1 }) hx (fun _ _ => rfl) r q3⟩
  | ins c fs => obtain ⟨dx, xs, e1, r⟩ := q; exact ⟨dx, xs, e1, RepP.down (w := S.vw) (w' := Ss.vw { S with μ := μ1 }) hx (fun _ _ => rfl) r q3⟩
  | lck kvs o es => exact ⟨q.1, RepP.down (w := S.vw) (w' := Ss.vw { S with μ := μ1 }) hx (fun _ _ => rfl) q.2 q3⟩
def finP (n : Nat) (Q : Post) : Post := fun d μ' => ∃ μ1, n ≤ μ1.next ∧ μ1.Part μ' ∧ objB μ1.next d = true ∧ Q d μ1
def finX (n : Nat) (Q : XPost) : XPost := fun x μ' => ∃ μ1, n ≤ μ1.next ∧ μ1.Part μ' ∧ Q x μ1
def outs (n : Nat) (Q : Post) (QX : XPost) : Outs := ⟨fun _ μ' => finP n Q .non μ', finP n Q, fun _ _ => False, fun _ _ => False, fun x _ μ' => finX n QX x μ'⟩
def startE (N : List Str) (ds : List D) : Env := ds.map some ++ List.replicate (N.length - ds.length) none
theorem env_start {W : Wd} {w : Vw} {N : List Str} {ds : List D} {vs : List V} (r : Reps W.K w ds vs) : EnvR W w (startE N ds) (L2.start N vs) := by
  unfold startE L2.start
  refine ⟨by simp [r.length], fun i d e => ?_⟩
  have hl := r.length
  by_cases hi : i < ds.length
  · rw [List.getElem?_append_left (by simpa using hi), List.getElem?_map, List.getElem?_eq_getElem hi] at e
    obtain ⟨v, ev, rv⟩ := r.get (List.getElem?_eq_getElem hi)
    cases e
    exact ⟨v, by rw [List.getElem?_append_left (by simpa [hl] using hi), List.getElem?_map, ev]; rfl, rv⟩
  · rw [List.getElem?_append_right (by simpa using hi), List.getElem?_replicate] at e
    split at e <;> cases e
def Sto.wf (μ : Sto) : Prop := ∀ k c, μ.cell k = some c → k < μ.next ∧ cellB μ.next c = true
mutual
theorem Rep.objB {K : PySem.W.Frag} {w : Vw} : ∀ {d : D} {v : V}, Rep K w d v → M.objB w.n d = true
  | .non, _, _ => rfl
  | .bl _, _, _ => rfl
  | .int _, _, _ => rfl
  | .str _, _, _ => rfl
  | .ty _, _, _ => rfl
  | .fn _, _, _ => rfl
  | .tup _, _, ⟨_, _, _, _, r⟩ => Reps.objB r
  | .lst _, _, ⟨_, _, _, _, r⟩ => Reps.objB r
  | .scr _, _, ⟨_, _, _, _, r⟩ => Reps.objB r
  | .obj _, _, ⟨h, _⟩ => decide_eq_true h
theorem Reps.objB {K : PySem.W.Frag} {w : Vw} : ∀ {ds : List D} {xs : List V}, Reps K w ds xs → objBs w.n ds = true
  | [], _, _ => rfl
  | _ :: _, _, ⟨_, _, _, h, t⟩ => by
    show (M.objB w.n _ && objBs w.n _) = true
    rw [Rep.objB h, Reps.objB t]
    rfl
end
theorem RepP.objB {κ : Type} {K : PySem.W.Frag} {w : Vw} : ∀ {ds : List (κ × D)} {xs : List (κ × V)}, RepP K w ds xs → objBs w.n (ds.map (·.2)) = true
  | [], _, _ => rfl
  | (_, _) :: _, _, ⟨_, _, _, h, t⟩ => by
    show (M.objB w.n _ && objBs w.n _) = true
    rw [Rep.objB h, RepP.objB t]
    rfl
theorem Rl.wf {W : Wd} {S : Ss} (R : Rl W S) : S.μ.wf := fun k c h => by
  refine ⟨R.lt k c h, ?_⟩
  have q := R.ok k c h
  cases c with
  | lst ds => obtain ⟨xs, e1, r⟩ := q; exact r.objB
  | dct kvs => obtain ⟨xs, e1, r⟩ := q; exact r.objB
  | ins c fs => obtain ⟨dx, xs, e1, r⟩ := q; exact r.objB
  | lck kvs o es => exact q.2.objB
theorem fn_ok {x qual : Str} {st : Stmt} {f : Addr} {fd : FuncData} {N ps : List Str} {sp : Spec} {c : IR} {cd : Prop} (F : Fun B.K x qual st f fd) (S : FnScope N ps (defScope st)) (hc : chkB N c (defScope st) (defBody st) = true) (ok : okS B T cls k cd c)
    (hcd : cd → ∀ cdv, PySem.W.codeIn B.K cdv qual = true → (∃ oc od kV doc pm an ct osl, B.K.lookup f = some ⟨oc, od, .func (PySem.W.fnOf x qual (defArgs st) (defBody st) (defScope st) .none kV doc pm an cdv ct), osl⟩) → ∃ c P, cdv = .ref c ∧ GxR.TabB B.base B.mg c P ∧ P ∈ T)
    (hld : lamK (defScope st) = true → qual ++ ".<locals>." ++ "<lambda>" = lamQ ∧ ∀ cdv, PySem.W.codeIn B.K cdv qual = true → (∃ oc od kV doc pm an ct osl, B.K.lookup f = some ⟨oc, od, .func (PySem.W.fnOf x qual (defArgs st) (defBody st) (defScope st) .none kV doc pm an cdv ct), osl⟩) → ∃ c, cdv = .ref c ∧ LamX.TabB B.base B.mg c (cls 1000))
    (h : ∀ ds μ Q QX, μ.wf → objBs μ.next ds = true → sp ds μ Q QX → ds.length = ps.length ∧ wpS c (startE N ds) μ (outs μ.next Q QX)) (hl : ∀ ds μ Q QX, sp ds μ Q QX → ds.length = ps.length) (hk2 : k % 2 = 0 := by decide) : FnOk B.P B.w B.K B.mg B.base (L2N.CX B.P B.w) (k + 1) f fd ps (lift ⟨B.K, T, cls⟩ sp) := by
  obtain ⟨oc, od, kV, doc, pm, an, cdv, ct, osl, rfl, lk, hcode⟩ := F.ex
  refine fn_of lk hcode S (fun vs H Q E h => ?_) fun A outer s H vs Q E hr hsp => ?_
  · obtain ⟨S0, ds, QM, QX, rfl, R, r, hs, _, _⟩ := h
    rw [r.length]
    exact hl _ _ _ _ hs
  · obtain ⟨S0, ds, QM, QX, rfl, R, r, hs, hq, hx⟩ := hsp
    obtain ⟨_, hw⟩ := h ds S0.μ QM QX R.wf r.objB hs
    refine ⟨DS ⟨B.K, T, cls⟩ (fun cl d _ H => E cl d H) c, ?_, ?_⟩
    · refine sndB (B := B) (k := k) (cd := cd) (X := cxOf (L2N.CX B.P B.w) B.P B.w B.K B.mg B.base N qual (defScope st) f cdv A outer s S0.H E) c ⟨rfl, ⟨rfl, S.nd, hr, (fun _ _ _ => rfl), fun _ => ⟨rfl, rfl⟩⟩, fun z => ?_, L2N.takes_of rfl rfl rfl rfl, (fun h => by cases h), fun _ => S.kind, fun _ e => ⟨(hld e).1, (hld e).2 cdv hcode ⟨oc, od, kV, doc, pm, an, ct, osl, lk⟩⟩, fun z => by omega⟩ (passes_of rfl) ok hc
      obtain ⟨c1, P, e1, tb, hP⟩ := hcd z cdv hcode ⟨oc, od, kV, doc, pm, an, ct, osl, lk⟩
      exact ⟨c1, P, e1, tb, hP⟩
    · refine ⟨S0, startE N ds, outs S0.μ.next QM QX, rfl, R, env_start r, hw, ?_⟩
      have fin : ∀ S' d v, S0.le S' → Rl ⟨B.K, T, cls⟩ S' → Rep B.K S'.vw d v → finP S0.μ.next QM d S'.μ → Q v S'.H := by
        rintro S' d v l R' r' ⟨μ1, hn, hp, ho, q⟩
        obtain ⟨hx1, R1⟩ := R'.part hp
        exact hq { S' with μ := μ1 } d v ⟨⟨l.1.1.trans hx1, l.1.2.1, hn⟩, l.2⟩ R1 (Rep.down (w := S'.vw) (w' := Ss.vw { S' with μ := μ1 }) hx1 (fun _ _ => rfl) r' ho) q
      refine ⟨fun S' δ' σ' l R' _ q => fin S' .non .non l R' rfl q, fun S' d v l R' r' q => fin S' d v l R' r' q, fun _ _ _ _ _ _ q => q.elim, fun _ _ _ _ _ _ q => q.elim, ?_⟩
      rintro S' x δ' σ' l R' _ ⟨μ1, hn, hp, q⟩
      obtain ⟨hx1, R1⟩ := R'.part hp
      exact hx { S' with μ := μ1 } x ⟨⟨l.1.1.trans hx1, l.1.2.1, hn⟩, l.2⟩ R1 q
end
end M
end
section
namespace M
open PySem PySem.Spec PyProof.Rows L2
section
variable {B : Bs} {T : List Addr} {cls : Nat → Addr} {k : Nat} {cd : Prop} {X : Cx} {Wx : WX}
def fRse (x : Str) : SF := fun _ sc st => match st with
  | .Raise (some (.Call (.Name y _) [.Constant (.str _) _ _] [] _)) none _ => if x = y ∧ glB sc y = true then some [] else none
  | _ => none
def eRse (c : Nat) : EvS := fun δ _ μ O => O.xc c δ μ
def RsC (B : Bs) (cls : Nat → Addr) (x : Str) (c : Nat) : Prop :=
  B.mg x = some (.ref (cls c)) ∧ PySem.W.keepIn B.K (.ref (cls c)) = true ∧ (x == ("__debug__" : Str)) = false ∧ (∃ Bn newId initId bm, ExcBaseFacts Bn newId initId bm ∧ PySem.W.excIn B.K (cls c) bm newId = true) ∧
    PySem.W.subIn B.K (.ref (cls c)) (.type "BaseException") = some true ∧ PySem.W.typeIn B.K (.ref (cls c)) = some (.type "type")
theorem n_rse {x : Str} {c : Nat} (h : RsC B cls x c) : SnoOk B T cls k cd (fRse x) (eRse c) := by
  intro X Wx st es as S hf hp
  unfold fRse at hf
  split at hf
  · rename_i y p m j p2 p3 pos
    split at hf
    · rename_i hc
      obtain ⟨rfl, hg⟩ := hc
      cases hf
      have e := hp.none
      subst e
      have hB := S.bs
      subst hB
      obtain ⟨gC, kC, hd, ⟨Bn, n1, n2, bm, F, q⟩, h1, h2⟩ := h
      refine PS.weak (L2N.ps_raise S.g.calm S.tk (L2N.pmk_own F q gC kC (raises_own h1 h2) (gl_of hg) hd)) fun E σ H h => ?_
      obtain ⟨S0, δ, O, rfl, R, hE, hw, C⟩ := h
      simp only [wpS, wpA, eRse] at hw
      exact C.xc S0 c δ σ (.refl _) R hE hw
    · cases hf
  · cases hf
def maxI (z : Int) : List Int → Int
  | [] => z
  | n :: ns => ns.foldl max n
theorem foldl_max : ∀ (ns : List Int) (n : Int), (ns.foldl max n ∈ n :: ns) ∧ ∀ y ∈ n :: ns, y ≤ ns.foldl max n
  | [], n => ⟨List.mem_cons_self, fun y hy => by simp only [List.mem_singleton] at hy; rw [hy]; exact Int.le_refl _⟩
  | m :: ns, n => by
    obtain ⟨h1, h2⟩ := foldl_max ns (max n m)
    refine ⟨?_, fun y hy => ?_⟩
    · show ns.foldl max (max n m) ∈ _
      rcases List.mem_cons.mp h1 with e | e
      · rw [e]
        by_cases hnm : n ≤ m
        · rw [show max n m = m by omega]; simp
        · rw [show max n m = n by omega]; simp
      · exact List.mem_cons_of_mem _ (List.mem_cons_of_mem _ e)
    · show y ≤ ns.foldl max (max n m)
      have h3 := h2 (max n m) List.mem_cons_self
      rcases List.mem_cons.mp hy with e | e
      · omega
      · rcases List.mem_cons.mp e with e | e
        · omega
        · exact h2 y (List.mem_cons_of_mem _ e)
theorem maxI_of {z m : Int} {ns : List Int} (h : ns = [] ∧ m = z ∨ m ∈ ns ∧ ∀ y ∈ ns, y ≤ m) : m = maxI z ns := by
  rcases h with ⟨rfl, rfl⟩ | ⟨h1, h2⟩
  · rfl
  · cases ns with
    | nil => cases h1
    | cons n ns =>
      obtain ⟨h3, h4⟩ := foldl_max ns n
      have := h2 _ h3
      have := h4 _ h1
      show m = ns.foldl max n
      omega
def eMaxD (z : Int) : EvE := fun _ ds μ Q _ => match ds with
  | [d] => ∃ ns : List Int, asL d μ = some (ns.map .int) ∧ Q (.int (maxI z ns)) μ
  | _ => False
theorem reps_ints {K : PySem.W.Frag} {w : Vw} : ∀ {ns : List Int} {xs : List V}, Reps K w (ns.map .int) xs → xs = ns.map V.int
  | [], _, h => h
  | n :: ns, _, ⟨x, r, e, h, t⟩ => by
    have h : x = .int n := h
    rw [e, h, reps_ints t]
    rfl
def eGin (neg : Bool) (tbl : List (Str × D)) : EvE := fun _ ds μ Q _ => match ds with
  | [.str z] => Q (.bl ((tbl.lookup z).isSome != neg)) μ
  | _ => False
def eGinT (neg : Bool) (tbl : List (Str × D)) : EvT := fun _ ds μ Q _ => match ds with
  | [.str z] => Q ((tbl.lookup z).isSome != neg) μ
  | _ => False
def eGix (tbl : List (Str × D)) : EvE := fun _ ds μ Q _ => match ds with
  | [.str z] => match tbl.lookup z with
    | some d => Q d μ
    | none => False
  | _ => False
def eCal0 (sp : Spec) : EvE := fun _ _ μ Q X => sp [] μ Q X
def fCal0 (x : Str) : XF := fun _ sc _ e => match e with
  | .Call (.Name y _) [] [] _ => if x = y ∧ glB sc y = true then some [] else none
  | _ => none
theorem n_cal0 {x : Str} {sp : Spec} (h : FnC B T cls k x sp) : NodOk B T cls k cd (fCal0 x) (eCal0 sp) := by
  intro X top Wx e es as S hf hp
  unfold fCal0 at hf
  split at hf
  · rename_i y p pos
    split at hf
    · rename_i hc
      obtain ⟨rfl, hg⟩ := hc
      cases hf
      have e := hp.none
      subst e
      have hB := S.bs
      subst hB
      obtain ⟨f, fd, ps, sp', dd, dvs, dus, hm, hk, hdb, F, b, hd, hrd, imp⟩ := h
      refine ⟨fun pins s σ H Q I hh => ?_⟩
      refine wpAny_Call_Name_kw (ld_glob I (gl_of hg) hm ?_ hdb)
      refine PySem.W.callWith_K0 I.kIn hk (run_fnSD (us := []) (vs := []) (E := WE Wx) F S.g.room b hd (L2N.passAt S.tk σ) I .nil ?_)
      obtain ⟨S0, δ, QM, QX, rfl, R, hE, hw, hq, hx⟩ := hh
      simp only [wpE, wpA] at hw
      exact ⟨S0, dd, QM, QX, rfl, R, hrd _, imp _ _ _ _ hw, hq, hx⟩
    · cases hf
  · cases hf
end
end M
end
section
namespace M
open PySem PySem.Spec PyProof.Rows L2
section
variable {B : Bs} {T : List Addr} {cls : Nat → Addr} {k : Nat} {cd : Prop} {X : Cx} {Wx : WX}
def keyB : Option Expr → Str → Bool
  | some (.Constant (.str x) _ _), y => decide (x = y)
  | _, _ => false
theorem keyB_of {k : Option Expr} {y : Str} (h : keyB k y = true) : ∃ j p, k = some (.Constant (.str y) j p) := by
  unfold keyB at h
  split at h
  · rw [decide_eq_true_eq] at h
    subst h
    exact ⟨_, _, rfl⟩
  · cases h
def keysB : List (Option Expr) → List Str → Bool
  | [], [] => true
  | k :: ks, y :: ys => keyB k y && keysB ks ys
  | _, _ => false
theorem keysB_all : ∀ {keys : List (Option Expr)} {ks : List Str}, keysB keys ks = true → keys.all (·.isSome) = true ∧ keys.length = ks.length
  | [], [], _ => ⟨rfl, rfl⟩
  | [], _ :: _, h => by cases (show false = true from h)
  | _ :: _, [], h => by cases (show false = true from h)
  | k :: keys, y :: ks, h => by
    have h : (keyB k y && keysB keys ks) = true := h
    rw [Bool.and_eq_true] at h
    obtain ⟨h1, h2⟩ := keysB_all h.2
    obtain ⟨j, p, rfl⟩ := keyB_of h.1
    exact ⟨by rw [List.all_cons, h1]; rfl, by rw [List.length_cons, List.length_cons, h2]⟩
theorem zip_keys : ∀ (ks : List Str) (vs : List V), (ks.map V.str).zip vs = ((ks.map Sum.inr).zip vs).map (fun kv : Key × V => (kV kv.1, kv.2))
  | [], _ => by simp
  | k :: ks, [] => by simp
  | k :: ks, v :: vs => by
    simp only [List.map_cons, List.zip_cons_cons]
    rw [zip_keys ks vs]
    rfl
def eDsp (ks : List Str) : EvE := fun _ ds μ Q _ => Q (.obj μ.next) (μ.new (.dct ((ks.map Sum.inr).zip ds)))
def fDsp (ks : List Str) : XF := fun _ _ _ e => match e with
  | .Dict keys vals _ => if keysB keys ks = true ∧ ks.Nodup ∧ keys.length = vals.length ∧ keys ≠ [] ∧ keys.length ≤ 15 then some vals else none
  | _ => none
theorem pairs_of {pos : Pos} : ∀ {ks : List Str} {keys : List (Option Expr)} {vals : List Expr} {as : IR}, keysB keys ks = true → keys.length = vals.length → PEs X (wd X T cls) Wx as vals →
    ∃ trs, PPs X pos keys vals trs ∧ ∀ (S : Ss) (δ : Env) (σ : L2.St) (QM : List D → Sto → Prop) (QX : XPost) (Q : List (V × V) → Hp → Prop), Rl (wd X T cls) S → EnvR (wd X T cls) S.vw δ σ → wpA as δ S.μ QM QX →
      (∀ S' ds vs, S.le S' → Rl (wd X T cls) S' → Reps X.K S'.vw ds vs → ds.length = ks.length → QM ds S'.μ → Q ((ks.map V.str).zip vs) S'.H) → AfterX (wd X T cls) S QX (WE Wx σ) → tPairs trs σ S.H Q
  | [], [], vals, as, _, hl, hp => by
    cases vals with
    | cons _ _ => cases hl
    | nil =>
      have e := hp.none
      subst e
      refine ⟨[], pps_nil, fun S δ σ QM QX Q R hE hw hq hx => ?_⟩
      simp only [wpA] at hw
      exact hq S [] [] (.refl _) R rfl rfl hw
  | [], _ :: keys, vals, as, hk, _, _ => by cases (show false = true from hk)
  | y :: ks, [], vals, as, hk, _, _ => by cases (show false = true from hk)
  | y :: ks, key :: keys, vals, as, hk, hl, hp => by
    have hk : (keyB key y && keysB keys ks) = true := hk
    rw [Bool.and_eq_true] at hk
    obtain ⟨j, p, rfl⟩ := keyB_of hk.1
    cases vals with
    | nil => cases hl
    | cons v vals =>
      cases as with
      | cons a r =>
        obtain ⟨_, h3, h4⟩ := hp
        obtain ⟨trs, hpp, hrd⟩ := pairs_of (ks := ks) (keys := keys) (vals := vals) (as := r) (pos := pos) hk.2 (by simpa using hl) h4
        refine ⟨(_, _) :: trs, pps_cons pe_str h3 hpp, fun S δ σ QM QX Q R hE hw hq hx => ?_⟩
        simp only [wpA] at hw
        refine ⟨S, δ, _, QX, rfl, R, hE, hw, fun S1 d1 v1 l1 R1 r1 w1 => ?_, hx⟩
        refine hrd S1 δ σ _ QX _ R1 (hE.mono l1.1) w1 (fun S2 ds vs l2 R2 r2 hlen w2 => ?_) (hx.le l1)
        exact hq S2 (d1 :: ds) (v1 :: vs) (l1.trans l2) R2 ⟨v1, vs, rfl, r1.mono l2.1, r2⟩ (by simp [hlen]) w2
      | nil => cases (show v :: vals = [] from hp)
      | _ => exact (show False from hp).elim
theorem merge_nodup {V' : Type} : ∀ (more acc : List (Key × V)), ((acc ++ more).map (·.1)).Nodup → mergeK acc more = acc ++ more
  | [], acc, _ => by simp [mergeK]
  | (a, b) :: more, acc, h => by
    have hn : (acc.any fun kv => decide (kv.1 = a)) = false := by
      rw [List.any_eq_false]
      intro kv hm z
      rw [decide_eq_true_eq] at z
      rw [List.map_append, List.nodup_append] at h
      exact h.2.2 kv.1 (List.mem_map_of_mem hm) a (by simp) z
    have e : putK acc a b = acc ++ [(a, b)] := by
      unfold putK
      rw [if_neg (by rw [hn]; exact Bool.false_ne_true)]
    show mergeK (putK acc a b) more = _
    rw [e, merge_nodup (V' := V') more (acc ++ [(a, b)]) (by simpa using h)]
    simp
theorem zip_rep {K : PySem.W.Frag} {w : Vw} : ∀ {ks : List Key} {ds : List D} {vs : List V}, Reps K w ds vs → RepP K w (ks.zip ds) (ks.zip vs)
  | [], _, _, _ => by simp; rfl
  | k :: ks, [], vs, h => by
    have h : vs = [] := h
    subst h
    rfl
  | k :: ks, d :: ds, _, ⟨x, r, e, h, t⟩ => by
    rw [e]
    exact ⟨x, _, rfl, h, zip_rep t⟩
theorem n_dsp {ks : List Str} : NodOk B T cls k cd (fDsp ks) (eDsp ks) := by
  intro X top Wx e es as S hf hp
  unfold fDsp at hf
  split at hf
  · rename_i keys vals pos
    split at hf
    · rename_i hc
      obtain ⟨hk, hnd, hl, h0, h15⟩ := hc
      cases hf
      obtain ⟨hall, hkl⟩ := keysB_all hk
      obtain ⟨trs, hpp, hrd⟩ := pairs_of (ks := ks) (pos := pos) hk hl hp
      refine PE.weak (pe_disp hpp hall hl h0 h15) fun σ H Q hh => ?_
      obtain ⟨S0, δ, QM, QX, rfl, R, hE, hw, hq, hx⟩ := hh
      simp only [wpE] at hw
      intro D hD
      have pvD : S0.pv D = none := by
        cases e : S0.pv D with
        | none => rfl
        | some o =>
          have := (R.prv D o e).1
          rw [hD] at this
          cases this
      obtain ⟨lk, Rk⟩ := R.keep (o := .dK []) hD
      refine hrd { S0 with H := upd S0.H D (.dK []), pv := upd S0.pv D (.dK []) } δ σ _ QX _ Rk (hE.mono lk) hw (fun S2 ds vs l2 R2 r2 hlen w2 => ?_) (fun S2 x l2 R2 w2 => ?_)
      · have hpv : S2.pv = upd S0.pv D (.dK []) := l2.2
        have at2 : S2.pv D = some (.dK []) := by rw [hpv]; exact upd_same
        have lv : vs.length = ks.length := by rw [r2.length, hlen]
        have hmr : mergeK [] ((ks.map Sum.inr).zip vs) = (ks.map Sum.inr).zip vs := by
          rw [merge_nodup (V' := Nat)]
          · rfl
          · rw [List.nil_append, List.map_fst_zip (by rw [List.length_map, lv]; exact Nat.le_refl _)]
            exact List.Pairwise.map _ (fun a b h1 h2 => h1 (Sum.inr.inj h2)) hnd
        refine ⟨(R2.prv D _ at2).1, (ks.map Sum.inr).zip vs, ?_, ?_, ?_⟩
        · exact zip_keys ks vs
        · rw [List.length_zip, List.length_map, lv, Nat.min_self]
          rw [← hkl]
          exact h15
        · rw [hmr]
          have hv : ∀ a o, S0.pv a = some o → S2.pv a = some o ∧ a ≠ D := fun a o e => by
            have ha : a ≠ D := fun z => by rw [z, pvD] at e; cases e
            exact ⟨by rw [hpv, upd_ne ha]; exact e, ha⟩
          obtain ⟨l3, R3⟩ := R2.adopt (c := .dct ((ks.map Sum.inr).zip ds)) (pv' := S0.pv) (o := .dK ((ks.map Sum.inr).zip vs)) at2 hv ⟨_, upd_same, RepP.mono (w := S2.vw) (w' := ⟨hid S2, newρ S2.ρ S2.μ.next D, S2.μ.next + 1⟩) ⟨Ext.refl _, fun k hk => newρ_ne (Nat.ne_of_lt hk), Nat.le_succ _⟩ (zip_rep r2)⟩
          exact hq _ (.obj S2.μ.next) (.ref D) ⟨(lk.trans l2.1).trans l3, rfl⟩ R3 ⟨Nat.lt_succ_self _, by show V.ref D = V.ref (newρ S2.ρ S2.μ.next D S2.μ.next); rw [newρ_same]⟩ w2
      · have hpv : S2.pv = upd S0.pv D (.dK []) := l2.2
        obtain ⟨l3, R3⟩ := R2.give (pv' := S0.pv) fun a o e => by
          have ha : a ≠ D := fun z => by rw [z, pvD] at e; cases e
          rw [hpv, upd_ne ha]
          exact e
        exact hx { S2 with pv := S0.pv } x ⟨(lk.trans l2.1).trans l3, rfl⟩ R3 w2
    · cases hf
  · cases hf
def spDget : Spec := fun ds μ Q _ => match ds with
  | [d, e, f] => match asK d μ, keyOf e with
    | some kvs, some k => Q ((valD kvs k).getD f) μ
    | _, _ => False
  | [d, e] => match asK d μ, keyOf e with
    | some kvs, some k => Q ((valD kvs k).getD .non) μ
    | _, _ => False
  | _ => False
theorem m_dget : MtC B T cls k "dict" "dict.get" "get" spDget := by
  refine ⟨PySem.F.plainAttrs_dict, PySem.F.slot_dict_get, PySem.F.type_dict_get, fun X hB hc hr => ?_⟩
  intro pins s σ H x xs v us Q I rx rs h
  have hu : X.A.units + 1 < cLine := by have := hr.un; omega
  obtain ⟨S, d, ds, QM, rfl, R, rd, rr, hw, hq⟩ := h
  unfold spDget at hw
  split at hw
  · rename_i d0 e f hds
    cases hds
    split at hw
    · rename_i kvs key e1 e2
      obtain ⟨a, es, rfl, ha, re⟩ := asK_rep R rd e1
      obtain ⟨x1, r2, rfl, q1, q2⟩ := rr
      obtain ⟨x2, rfl, q3⟩ := Reps.inv1 q2
      obtain ⟨u1, u2, rfl, w1, w2⟩ := vals2 rs
      obtain rfl : v = Value.ref a := rx
      have := key_rep e2 q1
      subst this
      refine d_get2 hu I (dget_rd ha) w1 w2 fun w' s' I' rw' => ?_
      have hv := val_rep (k := key) re
      cases hd : valD kvs key with
      | some d' =>
        rw [hd] at hv hw
        obtain ⟨v', ev, rv⟩ := hv
        rw [ev] at rw'
        exact ⟨_, _, I', rw', hq S d' v' (.refl _) R rv hw⟩
      | none =>
        rw [hd] at hv hw
        rw [hv] at rw'
        exact ⟨_, _, I', rw', hq S f x2 (.refl _) R q3 hw⟩
    · exact hw.elim
  · rename_i d0 e hds
    cases hds
    split at hw
    · rename_i kvs key e1 e2
      obtain ⟨a, es, rfl, ha, re⟩ := asK_rep R rd e1
      obtain ⟨x1, rfl, q1⟩ := Reps.inv1 rr
      obtain ⟨u1, rfl, w1⟩ := vals1 rs
      obtain rfl : v = Value.ref a := rx
      have := key_rep e2 q1
      subst this
      refine d_get1 hu I (dget_rd ha) w1 fun w' s' I' rw' => ?_
      have hv := val_rep (k := key) re
      cases hd : valD kvs key with
      | some d' =>
        rw [hd] at hv hw
        obtain ⟨v', ev, rv⟩ := hv
        rw [ev] at rw'
        exact ⟨_, _, I', rw', hq S d' v' (.refl _) R rv hw⟩
      | none =>
        rw [hd] at hv hw
        rw [hv] at rw'
        exact ⟨_, _, I', rw', hq S .non .non (.refl _) R rfl hw⟩
    · exact hw.elim
  · exact hw.elim
end
end M
end
section
namespace M
open PySem PySem.Spec PyProof.Rows L2
section
variable {B : Bs} {T : List Addr} {cls : Nat → Addr} {k : Nat} {cd : Prop} {X : Cx} {Wx : WX}
theorem c_bi {x : Str} {u : Value} {sp : Spec} (hm : B.mg x = none) (hn : x ≠ "__name__") (hd : (x == ("__debug__" : Str)) = false) (hu : bootBuiltins x = some u) (hk : (∃ id, u = .builtin id) ∨ ∃ id, u = .type id)
    (hi : ∀ ds μ Q E, sp ds μ Q E → sp ds μ Q (fun _ _ => False))
    (h : ∀ X : Cx, Cx.bs X = B → X.calm = true → Room k X.A → ∀ (pins : List (Addr × Obj)) (s : Shared) (σ : L2.St) (S : Ss) (us : List Value) (vs : List V) (ds : List D) (QM : Post) (Q : VK), L2.Inv X pins σ S.H s → Vals vs us → Rl (wd X T cls) S → Reps X.K S.vw ds vs → sp ds S.μ QM (fun _ _ => False) → After (wd X T cls) S QM Q →
      wpAny (model X.prog X.w) X.A (call u us) (EP X pins σ Q) X.xe s) : CalC B T cls k x sp := by
  refine .inr ⟨⟨hm, hn, hd, u, hu, hk, fun X hB hc hr => ?_⟩, hi⟩
  intro pins s σ H vs us Q I r hh
  obtain ⟨S, ds, QM, rfl, R, rr, hw, hq⟩ := hh
  exact h X hB hc hr pins s σ S us vs ds QM Q I r R rr hw hq
def spLen : Spec := fun ds μ Q _ => match ds with
  | [.str s] => s.length ≤ sizeLine ∧ Q (.int s.length) μ
  | [d] => match asSeq d μ with
    | some xs => Q (.int xs.length) μ
    | none => False
  | _ => False
theorem c_len (hm : B.mg "len" = none) : CalC B T cls k "len" spLen := by
  refine c_bi hm (by decide) (by decide) (show bootBuiltins "len" = some (.builtin "len") by decide +kernel) (.inl ⟨_, rfl⟩) (fun _ _ _ _ h => h) fun X hB hc hr pins s σ S us vs ds QM Q I r R rr hw hq => ?_
  unfold spLen at hw
  split at hw
  · rename_i z
    obtain ⟨x, rfl, q1⟩ := Reps.inv1 rr
    exact call_len_str pins s σ S.H _ us Q I r ⟨z, by rw [show x = _ from q1], hw.1, hq S (.int _) _ (.refl _) R rfl hw.2⟩
  · rename_i d hd
    split at hw
    · rename_i xs e
      obtain ⟨x, rfl, q1⟩ := Reps.inv1 rr
      obtain ⟨a, ys, rfl, g, r2⟩ := asSeq_rep R q1 e
      refine call_len_seq pins s σ S.H _ us Q I r ⟨a, ys, rfl, g, ?_⟩
      rw [r2.length]
      exact hq S (.int _) _ (.refl _) R rfl hw
    · exact hw.elim
  · exact hw.elim
def spInt : Spec := fun ds μ Q _ => match ds with
  | [.int i] => Q (.int i) μ
  | [.bl b] => Q (.int (if b then 1 else 0)) μ
  | [.str s] => ∃ n, PySem.intText? s = some n ∧ s.length ≤ 640 ∧ Q (.int n) μ
  | _ => False
theorem c_int (hm : B.mg "int" = none) : CalC B T cls k "int" spInt := by
  refine c_bi hm (by decide) (by decide) (show bootBuiltins "int" = some (.type "int") by decide +kernel) (.inr ⟨_, rfl⟩) (fun _ _ _ _ h => h) fun X hB hc hr pins s σ S us vs ds QM Q I r R rr hw hq => ?_
  unfold spInt at hw
  split at hw
  · rename_i z
    obtain ⟨x, rfl, q1⟩ := Reps.inv1 rr
    exact call_int1 pins s σ S.H _ us Q I r (.inl ⟨z, by rw [show x = _ from q1], hq S (.int _) _ (.refl _) R rfl hw⟩)
  · rename_i z
    obtain ⟨x, rfl, q1⟩ := Reps.inv1 rr
    exact call_int1 pins s σ S.H _ us Q I r (.inr ⟨z, by rw [show x = _ from q1], hq S (.int _) _ (.refl _) R rfl hw⟩)
  · rename_i z
    obtain ⟨x, rfl, q1⟩ := Reps.inv1 rr
    obtain ⟨n, h1, h2, h3⟩ := hw
    exact call_int_str pins s σ S.H _ us Q I r ⟨z, n, by rw [show x = _ from q1], h1, h2, hq S (.int _) _ (.refl _) R rfl h3⟩
  · exact hw.elim
def spStr : Spec := fun ds μ Q _ => match ds with
  | [.int i] => i.natAbs.log2 < 1920 ∧ Q (.str (toString i)) μ
  | [.str s] => Q (.str s) μ
  | _ => False
theorem c_str (hm : B.mg "str" = none) : CalC B T cls k "str" spStr := by
  refine c_bi hm (by decide) (by decide) (show bootBuiltins "str" = some (.type "str") by decide +kernel) (.inr ⟨_, rfl⟩) (fun _ _ _ _ h => h) fun X hB hc hr pins s σ S us vs ds QM Q I r R rr hw hq => ?_
  unfold spStr at hw
  split at hw
  · rename_i z
    obtain ⟨x, rfl, q1⟩ := Reps.inv1 rr
    exact call_str_int pins s σ S.H _ us Q I r ⟨z, by rw [show x = _ from q1], hw.1, hq S (.str _) _ (.refl _) R rfl hw.2⟩
  · rename_i z
    obtain ⟨x, rfl, q1⟩ := Reps.inv1 rr
    exact SkE.call_str_str pins s σ S.H _ us Q I r ⟨z, by rw [show x = _ from q1], hq S (.str _) _ (.refl _) R rfl hw⟩
  · exact hw.elim
def tyName (d : D) (μ : Sto) : Option String := match d with
  | .non => some "NoneType"
  | .bl _ => some "bool"
  | .int _ => some "int"
  | .str _ => some "str"
  | .tup _ => some "tuple"
  | .lst _ => some "list"
  | .scr _ => some "list"
  | .ty _ => none
  | .fn _ => none
  | .obj j => match μ.cell j with
    | some (.lst _) => some "list"
    | some (.dct _) => some "dict"
    | _ => none
def isB (a b : String) : Bool := a == b || (a == "bool" && b == "int")
def tys : List String := ["NoneType", "bool", "int", "str", "tuple", "list", "dict"]
theorem isB_ok : ∀ a ∈ tys, ∀ b ∈ tys, kitB a b = some (isB a b) := by decide +kernel
theorem tyName_mem {d : D} {μ : Sto} {a : String} (h : tyName d μ = some a) : a ∈ tys := by
  unfold tyName at h
  split at h <;> first | (cases h; decide) | skip
  · cases h
  · cases h
  · split at h <;> first | (cases h; decide) | cases h
theorem tyx_of {S : Ss} {d : D} {v : V} {a : String} (R : Rl (wd X T cls) S) (r : Rep X.K S.vw d v) (h : tyName d S.μ = some a) : TyX X.K S.H v (.type a) := by
  have tupl : ∀ {p : Addr} {xs : List V}, SqT X.K S.H p xs → TyX X.K S.H (.ref p) (.type "tuple") := by
    rintro p xs ((e | ⟨o, e⟩) | ⟨o, its, n, e, c, _⟩)
    · exact .base (.tup e)
    · exact .fTuple e
    · exact .kTuple e c
  have lstl : ∀ {p : Addr} {xs : List V}, SqL X.K S.H p xs → TyX X.K S.H (.ref p) (.type "list") := by
    rintro p xs ((e | ⟨o, e⟩) | ⟨o, its, n, e, c, _⟩)
    · exact .base (.lst e)
    · exact .base (.frz e)
    · exact .kList e c
  cases d with
  | non => cases h; rw [show v = _ from r]; exact .base .non
  | bl b => cases h; rw [show v = _ from r]; exact .base (.bl b)
  | int i => cases h; rw [show v = _ from r]; exact .base (.int i)
  | str i => cases h; rw [show v = _ from r]; exact .base (.str i)
  | ty n => cases h
  | fn n => cases h
  | tup ds =>
    cases h
    obtain ⟨p, xs, rfl, g, _⟩ := r
    exact tupl (hid_ext.sqt g)
  | lst ds =>
    cases h
    obtain ⟨p, xs, rfl, g, _⟩ := r
    exact .base (.lst (hid_ex g))
  | scr ds =>
    cases h
    obtain ⟨p, xs, rfl, g, _⟩ := r
    exact lstl (hid_ext.sql g)
  | obj j =>
    obtain ⟨_, rfl⟩ := r
    unfold tyName at h
    dsimp only at h
    split at h
    · rename_i c hc
      cases h
      obtain ⟨xs, e1, _⟩ := R.ok _ _ hc
      exact .base (.lst e1)
    · rename_i c hc
      cases h
      obtain ⟨xs, e1, _⟩ := R.ok _ _ hc
      exact .base (.dK e1)
    · cases h
def tysOf : List D → Option (List String)
  | [] => some []
  | .ty n :: r => (tysOf r).map fun ns => n :: ns
  | _ => none
theorem tysOf_ok : ∀ {ts : List D} {ns : List String}, tysOf ts = some ns → ts = ns.map .ty
  | [], ns, h => by cases h; rfl
  | d :: r, ns, h => by
    cases d with
    | ty n =>
      have h : (tysOf r).map (fun ns => n :: ns) = some ns := h
      cases e : tysOf r with
      | none => rw [e] at h; cases h
      | some ms =>
        rw [e] at h
        cases h
        rw [tysOf_ok e]
        rfl
    | _ => cases (show none = some ns from h)
def spIsi : Spec := fun ds μ Q _ => match ds with
  | [d, .ty n] => match tyName d μ with
    | some a => n ∈ tys ∧ Q (.bl (isB a n)) μ
    | none => False
  | [d, .tup ts] => match tyName d μ, tysOf ts with
    | some a, some ns => (ns.all fun n => decide (n ∈ tys)) = true ∧ Q (.bl (ns.any fun n => isB a n)) μ
    | _, _ => False
  | _ => False
theorem kit_all {K : PySem.W.Frag} {a : String} (ha : a ∈ tys) : ∀ {ns : List String}, (∀ n ∈ ns, n ∈ tys) → PySem.W.kitAny K (.type a) (ns.map .type) = some (ns.any fun n => isB a n)
  | [], _ => rfl
  | n :: ns, h => by
    have h1 : PySem.W.kitOne K (.type a) (.type n) = some (isB a n) := kit_ty (isB_ok a ha n (h n List.mem_cons_self))
    refine kitAny_cons h1 (fun hf => ?_) (fun ht => ?_)
    · rw [List.any_cons, hf, Bool.false_or]
      exact kit_all ha fun m hm => h m (List.mem_cons_of_mem _ hm)
    · rw [List.any_cons, ht, Bool.true_or]
theorem reps_tys {K : PySem.W.Frag} {w : Vw} : ∀ {ns : List String} {xs : List V}, Reps K w (ns.map .ty) xs → Paired ClsV xs (ns.map Value.type)
  | [], _, h => by
    have h : _ = [] := h
    subst h
    exact .nil
  | n :: ns, _, ⟨x, r, e, h, t⟩ => by
    have h : x = .ty n := h
    subst e h
    exact .cons (.ty n) (reps_tys t)
theorem c_isi (hm : B.mg "isinstance" = none) : CalC B T cls k "isinstance" spIsi := by
  refine c_bi hm (by decide) (by decide) (show bootBuiltins "isinstance" = some (.builtin "isinstance") by decide +kernel) (.inl ⟨_, rfl⟩) (fun _ _ _ _ h => h) fun X hB hc hr pins s σ S us vs ds QM Q I r R rr hw hq => ?_
  unfold spIsi at hw
  split at hw
  · rename_i d n
    split at hw
    · rename_i a ea
      obtain ⟨x, y, rfl, q1, q2⟩ := Reps.inv2 rr
      have q2 : y = .ty n := q2
      subst q2
      exact call_isi pins s σ S.H _ us Q I r ⟨x, _, _, _, _, rfl, .ty n, tyx_of R q1 ea, kit_ty (isB_ok a (tyName_mem ea) n hw.1), hq S (.bl _) _ (.refl _) R rfl hw.2⟩
    · exact hw.elim
  · rename_i d ts
    split at hw
    · rename_i a ns ea en
      have en := tysOf_ok en
      subst en
      obtain ⟨hn, hw⟩ := hw
      have hn : ∀ n ∈ ns, n ∈ tys := fun n h => of_decide_eq_true (List.all_eq_true.mp hn n h)
      obtain ⟨x, y, rfl, q1, p, xs, rfl, g, q3⟩ := Reps.inv2 rr
      have g := hid_ext.sqt g
      obtain ⟨u1, u2, rfl, r1, r2⟩ := vals2 r
      cases (show u2 = Value.ref p from r2)
      obtain ⟨P, Z, pz, hx⟩ := kit_of I r1 (tyx_of R q1 ea)
      obtain ⟨its, rv, ⟨o, h1, h2, n, h3⟩, _⟩ := I.tuple g
      have e3 := ClsV.all (reps_tys q3) rv
      subst e3
      obtain ⟨oc, od, dt, sl⟩ := o
      simp only at h2 h3
      subst h2 h3
      exact PySem.W.kia_tup Z I.kIn pz h1 (kit_all (tyName_mem ea) hn) hx fun tk => ⟨.bl _, S.H, I.tok tk, rfl, hq S (.bl _) _ (.refl _) R rfl hw⟩
    · exact hw.elim
  · exact hw.elim
def spMax : Spec := fun ds μ Q _ => match ds with
  | [d] => ∃ ns : List Int, asL d μ = some (ns.map .int) ∧ ns ≠ [] ∧ Q (.int (maxI 0 ns)) μ
  | _ => False
theorem c_max (hm : B.mg "max" = none) : CalC B T cls k "max" spMax := by
  refine c_bi hm (by decide) (by decide) (show bootBuiltins "max" = some (.builtin "max") by decide +kernel) (.inl ⟨_, rfl⟩) (fun _ _ _ _ h => h) fun X hB hc hr pins s σ S us vs ds QM Q I r R rr hw hq => ?_
  unfold spMax at hw
  split at hw
  · rename_i d
    obtain ⟨ns, e1, hne, q⟩ := hw
    obtain ⟨x, rfl, q1⟩ := Reps.inv1 rr
    obtain ⟨a, xs, rfl, hs, r2⟩ := asL_rep R q1 e1
    rw [reps_ints r2] at hs
    refine cr_max hc pins s σ S.H _ us Q I r ⟨a, ns, rfl, hs, List.length_pos_iff.mpr hne, fun m h1 h2 => ?_⟩
    rw [maxI_of (z := 0) (.inr ⟨h1, h2⟩)]
    exact hq S (.int _) _ (.refl _) R rfl q
  · exact hw.elim
def spTup : Spec := fun ds μ Q _ => match ds with
  | [d] => match asSeq d μ with
    | some xs => Q (.tup xs) μ
    | none => False
  | _ => False
theorem c_tup (hm : B.mg "tuple" = none) : CalC B T cls k "tuple" spTup := by
  refine c_bi hm (by decide) (by decide) (show bootBuiltins "tuple" = some (.type "tuple") by decide +kernel) (.inr ⟨_, rfl⟩) (fun _ _ _ _ h => h) fun X hB hc hr pins s σ S us vs ds QM Q I r R rr hw hq => ?_
  unfold spTup at hw
  split at hw
  · rename_i d
    split at hw
    · rename_i xs e
      obtain ⟨x, rfl, q1⟩ := Reps.inv1 rr
      unfold asSeq at e
      split at e
      · cases e
        obtain ⟨a, ys, rfl, g, r2⟩ := q1
        exact call_tuple_of pins s σ S.H _ us Q I r ⟨a, ys, rfl, .inr ⟨hid_ext.sqt g, hq S (.tup _) _ (.refl _) R ⟨a, ys, rfl, g, r2⟩ hw⟩⟩
      · obtain ⟨a, ys, rfl, g, r2⟩ := asL_rep R q1 e
        exact call_tuple_of pins s σ S.H _ us Q I r ⟨a, ys, rfl, .inl ⟨g, fresh_tup R r2 hw hq⟩⟩
    · exact hw.elim
  · exact hw.elim
def spLst : Spec := fun ds μ Q _ => match ds with
  | [d] => match asSeq d μ with
    | some xs => Q (.lst xs) μ
    | none => False
  | _ => False
theorem new_lst {S : Ss} {QM : Post} {Q : VK} {ds : List D} {xs : List V} (R : Rl (wd X T cls) S) (r : Reps X.K S.vw ds xs) (hb : QM (.obj S.μ.next) (S.μ.new (.lst ds))) (hq : After (wd X T cls) S QM Q) : ∀ p, S.H p = none → Q (.ref p) (upd S.H p (.lst xs)) := fun p hp => by
  obtain ⟨l, R2⟩ := R.new (c := .lst ds) (H' := upd S.H p (.lst xs)) hp (fun a ha _ => upd_ne ha) (fun a o e => (upd_ne (ne_of_none (hid_ex e) hp)).trans (hid_ex e)) ⟨xs, upd_same, Reps.mono (w := S.vw) (w' := ⟨hid S, newρ S.ρ S.μ.next p, S.μ.next + 1⟩) ⟨Ext.refl _, fun k hk => newρ_ne (Nat.ne_of_lt hk), Nat.le_succ _⟩ r⟩
  exact hq _ (.obj S.μ.next) (.ref p) l R2 ⟨Nat.lt_succ_self _, by show V.ref p = V.ref (newρ S.ρ S.μ.next p S.μ.next); rw [newρ_same]⟩ hb
theorem c_lst (hm : B.mg "list" = none) : CalC B T cls k "list" spLst := by
  refine c_bi hm (by decide) (by decide) (show bootBuiltins "list" = some (.type "list") by decide +kernel) (.inr ⟨_, rfl⟩) (fun _ _ _ _ h => h) fun X hB hc hr pins s σ S us vs ds QM Q I r R rr hw hq => ?_
  unfold spLst at hw
  split at hw
  · rename_i d
    split at hw
    · rename_i xs e
      obtain ⟨x, rfl, q1⟩ := Reps.inv1 rr
      obtain ⟨a, ys, rfl, g, r2⟩ := asSeq_rep R q1 e
      exact call_list_of pins s σ S.H _ us Q I r ⟨a, ys, rfl, g, fresh_lst R r2 hw hq⟩
    · exact hw.elim
  · exact hw.elim
theorem m_mk {Ty id : String} {m : Str} {sp : Spec} {X0 : Prop} (pa : PlainAttrs Ty) (sl : Slot Ty m id) (ht : typeOf (.builtin id) = pure (.type "method_descriptor"))
    (h : ∀ X : Cx, Cx.bs X = B → X.calm = true → Room k X.A → ∀ (pins : List (Addr × Obj)) (s : Shared) (σ : L2.St) (S : Ss) (x : V) (v : Value) (us : List Value) (vs : List V) (d : D) (ds : List D) (QM : Post) (Q : VK), L2.Inv X pins σ S.H s → RelV x v → Vals vs us → Rl (wd X T cls) S → Rep X.K S.vw d x → Reps X.K S.vw ds vs → sp (d :: ds) S.μ QM (fun _ _ => False) → After (wd X T cls) S QM Q →
      wpAny (model X.prog X.w) X.A (call (.builtin id) (v :: us)) (EP X pins σ Q) X.xe s) : MtC B T cls k Ty id m sp := by
  refine ⟨pa, sl, ht, fun X hB hc hr => ?_⟩
  intro pins s σ H x vs v us Q I rx r hh
  obtain ⟨S, d, ds, QM, rfl, R, rd, rr, hw, hq⟩ := hh
  exact h X hB hc hr pins s σ S x v us vs d ds QM Q I rx r R rd rr hw hq
def spJoin : Spec := fun ds μ Q _ => match ds with
  | [.str a, d] => ∃ ys : List Str, asSeq d μ = some (ys.map .str) ∧ (ys.map (·.length)).sum + ys.length * a.length ≤ 16777216 ∧ Q (.str (Txt.join a ys)) μ
  | _ => False
theorem reps_strs {K : PySem.W.Frag} {w : Vw} : ∀ {ns : List Str} {xs : List V}, Reps K w (ns.map .str) xs → xs = ns.map V.str
  | [], _, h => h
  | n :: ns, _, ⟨x, r, e, h, t⟩ => by
    have h : x = .str n := h
    rw [e, h, reps_strs t]
    rfl
theorem m_join : MtC B T cls k "str" "str.join" "join" spJoin := by
  refine m_mk (X0 := True) PySem.F.plainAttrs_str PySem.F.slot_str_join PySem.F.type_str_join fun X hB hc hr pins s σ S x v us vs d ds QM Q I rx r R rd rr hw hq => ?_
  unfold spJoin at hw
  split at hw
  · rename_i a d' hds
    cases hds
    obtain ⟨ys, e, hz, q⟩ := hw
    obtain ⟨y, rfl, q1⟩ := Reps.inv1 rr
    obtain ⟨p, xs, rfl, g, r2⟩ := asSeq_rep R q1 e
    rw [reps_strs r2] at g
    exact mt_join pins s σ S.H x _ v us Q I rx r ⟨a, p, ys, rd, rfl, g, hz, hq S (.str _) _ (.refl _) R rfl q⟩
  · exact hw.elim
def spSplit : Spec := fun ds μ Q _ => match ds with
  | [.str a, .str b] => (b.length == 0) = false ∧ a.length + 2 ≤ sizeLine ∧ Q (.lst ((Txt.split a b).map .str)) μ
  | _ => False
theorem strs_reps {K : PySem.W.Frag} {w : Vw} : ∀ {ns : List Str}, Reps K w (ns.map .str) (ns.map V.str)
  | [] => rfl
  | n :: ns => ⟨.str n, _, rfl, rfl, strs_reps⟩
def spFind : Spec := fun ds μ Q _ => match ds with
  | [.str a, .str b, .int i] => Q (.int (Txt.find3 a b i)) μ
  | _ => False
def spApp : Spec := fun ds μ Q _ => match ds with
  | [.obj j, d] => match μ.cell j with
    | some (.lst xs) => xs.length < sizeLine ∧ Q .non (μ.put j (.lst (xs ++ [d])))
    | _ => False
  | _ => False
theorem m_app : MtC B T cls k "list" "list.append" "append" spApp := by
  refine m_mk (X0 := True) PySem.F.plainAttrs_list PySem.F.slot_list_append PySem.F.type_list_append fun X hB hc hr pins s σ S x v us vs d ds QM Q I rx r R rd rr hw hq => ?_
  unfold spApp at hw
  split at hw
  · rename_i j d' hds
    cases hds
    split at hw
    · rename_i xs e
      obtain ⟨y, rfl, q1⟩ := Reps.inv1 rr
      obtain ⟨_, rfl⟩ := rd
      obtain ⟨ys, e1, r2⟩ := R.ok _ _ e
      obtain ⟨l, R2⟩ := R.put (k := j) (c' := .lst (xs ++ [d'])) (o := .lst (ys ++ [y])) e ⟨_, upd_same, r2.append (Reps.one q1)⟩
      exact mt_append pins s σ S.H _ _ v us Q I rx r ⟨S.ρ j, ys, y, rfl, rfl, e1, by rw [r2.length]; exact hw.1, hq _ .non .non l R2 rfl hw.2⟩
    · exact hw.elim
  · exact hw.elim
end
end M
end
section
namespace M
open PySem PySem.Spec PyProof.Rows L2
section
variable {B : Bs} {T : List Addr} {cls : Nat → Addr} {k : Nat} {cd : Prop} {X : Cx} {Wx : WX}
def spOrd : Spec := fun ds μ Q _ => match ds with
  | [.str x] => x.length = 1 ∧ Q (.int (x.cps.getD 0 0 : Nat)) μ
  | _ => False
theorem c_ord (hm : B.mg "ord" = none) : CalC B T cls k "ord" spOrd := by
  refine c_bi hm (by decide) (by decide) (show bootBuiltins "ord" = some (.builtin "ord") by decide +kernel) (.inl ⟨_, rfl⟩) (fun _ _ _ _ h => h) fun X hB hc hr pins s σ S us vs ds QM Q I r R rr hw hq => ?_
  unfold spOrd at hw
  split at hw
  · rename_i x
    obtain ⟨v, rfl, q1⟩ := Reps.inv1 rr
    exact call_ord pins s σ S.H _ us Q I r ⟨x, by rw [show v = _ from q1], hw.1, hq S (.int _) _ (.refl _) R rfl hw.2⟩
  · exact hw.elim
def firstAt (z : Str) : List Str → Option Nat
  | [] => none
  | y :: ys => if y = z then some 0 else (firstAt z ys).map (· + 1)
theorem firstAt_ok {z : Str} : ∀ {ys : List Str} {j : Nat}, firstAt z ys = some j → ys[j]? = some z ∧ ∀ m, m < j → ys[m]? ≠ some z
  | y :: ys, j, h => by
    unfold firstAt at h
    by_cases e : y = z
    · rw [if_pos e] at h
      cases h
      exact ⟨by rw [e]; rfl, fun m hm => by omega⟩
    · rw [if_neg e] at h
      obtain ⟨i, hi, rfl⟩ := Option.map_eq_some_iff.mp h
      obtain ⟨h1, h2⟩ := firstAt_ok hi
      refine ⟨h1, fun m hm => ?_⟩
      cases m with
      | zero => exact fun z' => e (Option.some.inj z')
      | succ m => exact h2 m (by omega)
def eRev : EvE := fun _ ds μ Q _ => match ds with
  | [d] => match asL d μ with
    | some xs => Q (.lst xs.reverse) μ
    | none => False
  | _ => False
def fRev : XF := fun _ _ _ e => match e with
  | .Subscript x (.Slice none none (some (.UnaryOp .USub (.Constant (.int i) _ _) _)) _) _ => if i = 1 then some [x] else none
  | _ => none
theorem Reps.reverse {K : PySem.W.Frag} {w : Vw} : ∀ {ds : List D} {xs : List V}, Reps K w ds xs → Reps K w ds.reverse xs.reverse
  | [], _, h => by rw [show _ = [] from h]; rfl
  | d :: ds, _, ⟨x, r, e, h, t⟩ => by
    subst e
    rw [List.reverse_cons, List.reverse_cons]
    exact (Reps.reverse t).append (Reps.one h)
theorem n_rev : NodOk B T cls k cd fRev eRev := by
  intro X top Wx e es as S hf hp
  unfold fRev at hf
  split at hf
  · rename_i x i k1 p1 p2 p3 pos
    split at hf
    · rename_i hi
      subst hi
      cases hf
      obtain ⟨ci, rfl, _, hx⟩ := hp.one
      refine PE.weak (pe_revL hx) fun σ H Q hh => ?_
      obtain ⟨S0, δ, QM, QX, rfl, R, hE, hw, hq, hxx⟩ := hh
      simp only [wpE, wpA] at hw
      refine ⟨S0, δ, _, QX, rfl, R, hE, hw, fun S1 d1 v1 l1 R1 r1 w1 => ?_, hxx⟩
      dsimp only [eRev] at w1
      split at w1
      · rename_i xs e1
        obtain ⟨a, ys, rfl, g, r2⟩ := asL_rep R1 r1 e1
        exact ⟨a, ys, rfl, g, fresh_lst R1 r2.reverse w1 (hq.le l1)⟩
      · exact w1.elim
    · cases hf
  · cases hf
def GtC (B : Bs) (g : Str) (ws : List Str) : Prop := ∃ p o its n, B.mg g = some (.ref p) ∧ B.K.lookup p = some o ∧ o.cls = .type "tuple" ∧ o.dict = none ∧ o.data = .seq its n ∧ its.size ≤ sizeLine ∧ Vals (ws.map V.str) its.toList
theorem GtC.glb {g : Str} {ws : List Str} (h : GtC B g ws) : GlC B g (.tup (ws.map .str)) := by
  obtain ⟨p, o, its, n, e1, e2, e3, e4, e5, e6, e7⟩ := h
  exact ⟨.ref p, .ref p, e1, rfl, fun w => ⟨p, ws.map V.str, rfl, .inr ⟨o, its, n, e2, e3, e5, e6, e7⟩, strs_reps⟩⟩
def eGidx (ws : List Str) : EvE := fun _ ds μ Q _ => match ds with
  | [.str z] => match firstAt z ws with
    | some j => Q (.int (j : Nat)) μ
    | none => False
  | _ => False
def fGidx (g : Str) : XF := fun _ sc _ e => match e with
  | .Call (.Attribute (.Name y _) m apos) [e] [] pos => if g = y ∧ m = ("index" : Str) ∧ glB sc y = true ∧ okName y = true ∧ isStar e = false ∧ (apos.endLine == pos.line) = true then some [e] else none
  | _ => none
theorem n_gidx {g : Str} {ws : List Str} (h : GtC B g ws) : NodOk B T cls k cd (fGidx g) (eGidx ws) := by
  intro X top Wx e es as S hf hp
  unfold fGidx at hf
  split at hf
  · rename_i y p1 m apos e1 pos
    split at hf
    · rename_i hc
      obtain ⟨rfl, rfl, hg, hn, hst, hline⟩ := hc
      cases hf
      obtain ⟨ci, rfl, _, hi⟩ := hp.one
      have hB := S.bs
      subst hB
      obtain ⟨p, o, its, n, g1, g2, g3, g4, g5, g6, g7⟩ := h
      refine PE.weak (pe_bm PySem.F.plainAttrs_tuple PySem.F.slot_tuple_index PySem.F.type_tuple_index mt_tup_index (pe_glob (gl_of hg) g1 (v := .ref p) rfl (okN hn).1) (pa_cons hi pa_nil (star_of hst)) (base_of rfl) ?_ hline (star_of hst) (back_of (by rfl))) fun σ H Q hh => ?_
      · rw [backAll_of (by simp [hst])]
        rfl
      · obtain ⟨S0, δ, QM, QX, rfl, R, hE, hw, hq, hx⟩ := hh
        simp only [wpE, wpA] at hw
        refine ⟨.inr (.inl ⟨rfl, o, g2, g3, g4⟩), S0, δ, _, QX, rfl, R, hE, hw, fun S1 d1 v1 l1 R1 r1 w1 => ?_, hx⟩
        dsimp only [eGidx] at w1
        split at w1
        · rename_i z hz
          cases hz
          split at w1
          · rename_i j hj
            obtain ⟨a1, a2⟩ := firstAt_ok hj
            exact ⟨p, ws, z, j, rfl, by rw [show v1 = _ from r1], .inr ⟨o, its, n, g2, g3, g5, g6, g7⟩, a1, a2, hq S1 (.int _) _ l1 R1 rfl w1⟩
          · exact w1.elim
        · exact w1.elim
    · cases hf
  · cases hf
end
end M
end
section
namespace M
open PySem PySem.Spec PyProof.Rows L2
def cxS (cx : CXT) (P : Program) (w : World) (K : PySem.W.Frag) (mg : Str → Option Value) (base : Heap) (N : List Str) (qual : Str) (scope : Scope) (f : Addr) (cdv : Value) (cc : Addr) (A : Around) (outer : List PySem.Env) (s : Shared) (H : Hp) (E : XK) : Cx :=
  { prog := P, w := w, K := K, mg := mg, base := base, A := A.deeper (PySem.W.ksEnv qual scope s.heap.objs.size f cdv cc), N := N, s_0 := s, H_0 := H, env := PySem.W.ksEnv qual scope s.heap.objs.size f cdv cc, outer := outer,
    stack := PySem.W.ksEnv qual scope s.heap.objs.size f cdv cc :: outer, ex := [], fn := fun _ => false, calm := true, pn := [],
    xe := fun e s' => wpAny (model P w) (A.deeper (PySem.W.ksEnv qual scope s.heap.objs.size f cdv cc)) (leaving (PySem.W.ksEnv qual scope s.heap.objs.size f cdv cc) e) (fun _ s2 => cx outer H s E e s2) (fun e2 s2 => cx outer H s E e2 s2) s' }
structure ScS (N : List Str) (sc : Scope) : Prop where
  kind : sc.kind = .function
  co : sc.isCoroutine = false
  gen : sc.isGenerator = false
  nd : N.Nodup
  self : N[0]? = some ("self" : Str)
  par : sc.names.lookup ("self" : Str) = some .local
  nocell : ∀ y ∈ sc.names, y.2 ≠ .cell
  free : ∀ y ∈ sc.names, y.2 = .free → y.1 = ("__class__" : Str)
  cls : sc.names.lookup ("__class__" : Str) = some .free
  sup : sc.names.lookup ("super" : Str) = some .globalImplicit
section
variable {cx : CXT} {P : Program} {w : World} {K : PySem.W.Frag} {mg : Str → Option Value} {base : Heap} {N : List Str} {qual : Str} {scope : Scope} {f cc : Addr} {cdv : Value} {A : Around} {outer : List PySem.Env} {s : Shared} {H : Hp} {E : XK}
theorem inv_startS {u : Value} {v : V} {h1 : Heap} {tk : Nat} (S : ScS N scope) (hd : A.handled = none) (e0 : Env0 P w K mg base A outer s H) (hcc : ∃ o x, base.get? cc = some o ∧ o.data = .cell x) (r : RelV v u)
    (hns : h1.Ns s.heap.objs.size fun y => (([("self", u)] : List (Str × Value)).reverse).lookup y) (kp : ∀ b o, s.heap.get? b = some o → h1.get? b = some o) : Inv (cxS cx P w K mg base N qual scope f cdv cc A outer s H E) [] (L2.start N [v]) H { s with heap := h1, toks := tk } := by
  obtain ⟨oc, xc, hcc1, hcc2⟩ := hcc
  have look : ∀ {y : Str} {c : Addr}, ([("__class__", cc)] : List (Str × Addr)).lookup y = some c → y = "__class__" ∧ c = cc := fun {y c} e => by
    rw [List.lookup_cons] at e
    cases hy : y == Str.ofString "__class__" with
    | true =>
      rw [hy] at e
      cases e
      exact ⟨eq_of_beq hy, rfl⟩
    | false =>
      rw [hy] at e
      cases e
  have hN : 0 < N.length := (List.getElem?_eq_some_iff.mp S.self).1
  refine ⟨⟨e0.mod, S.kind, rfl, rfl, Nat.le_refl _, fun y z c e1 e2 => ?_, fun y hy => ?_, fun y c z _ => (by cases z), fun _ => hd, Around.frames_deeper e0.frames, .inr ⟨rfl, rfl⟩, fun b z => (by cases z), e0.bs, e0.bsz, fun b _ _ z => (by cases z), fun b z => (by cases z), e0.funs, e0.frf⟩,
    rfl, e0.bare, Un.kept kp, ⟨_, hns, fun i y x e1 e2 e3 => ?_⟩, fun y c e => ?_, e0.hok.fresh (Nat.le_refl _), fun y c e => ?_, fun q hq => (by cases hq), e0.hok.kept kp, ?_⟩
  · rw [(look e1).1, (look e2).1]
  · have hy : scope.names.lookup y = some .cell ∨ scope.names.lookup y = some .free := hy
    rcases hy with hy | hy
    · exact absurd rfl (S.nocell _ (PySem.mem_of_lookup hy))
    · have := S.free _ (PySem.mem_of_lookup hy) rfl
      refine ⟨cc, ?_⟩
      have this : y = "__class__" := this
      rw [this]
      rfl
  · have e1 : N[i]? = some y := e1
    cases i with
    | zero =>
      rw [S.self] at e1
      cases e1
      have e2 : some (some v) = some (some x) := e2
      cases e2
      exact ⟨u, r, .inl ⟨S.par, rfl⟩⟩
    | succ i =>
      unfold L2.start at e2
      rw [List.map_cons, List.map_nil, List.cons_append, List.getElem?_cons_succ, List.nil_append, List.getElem?_replicate] at e2
      split at e2 <;> cases e2
  · obtain ⟨e1, e2⟩ := look e
    subst e2
    exact ⟨xc, oc, kp _ _ (e0.bs _ _ hcc1).1, hcc2⟩
  · obtain ⟨e1, e2⟩ := look e
    subst e2
    exact (e0.bs _ _ hcc1).2
  · show (L2.start N [v]).length = N.length
    unfold L2.start
    rw [List.length_append, List.length_map, List.length_replicate, List.length_singleton]
    omega
structure SupK (K : PySem.W.Frag) (P : Program) (mg : Str → Option Value) (C D cc cda f2 : Addr) : Prop where
  cell : ∃ cl cld csl, K.lookup cc = some ⟨cl, cld, .cell (some (.ref D)), csl⟩
  clsD : ∃ cd, PySem.W.clsIn K D = some cd
  clsC : ∃ cd, PySem.W.clsIn K C = some cd
  sub : PySem.W.mroIn K C (.ref D) = some true
  sup : PySem.W.ks_superIn K C D "__init__" = some (some (.ref f2))
  ty : PySem.W.typeIn K (.ref f2) = some (.type "function")
  fi : PySem.W.fnIn K f2 = true
  op : PySem.W.nsIn K cStatics "thirdparty.any" = some none
  mgs : mg "super" = none
  top : (P.main.scope.names.lookup ("super" : Str)).isSome = false
  file : ∃ ccl cdd vs ccs file tf, K.lookup cda = some ⟨ccl, cdd, .fields vs, ccs⟩ ∧ vs[2]? = some (.str file tf) ∧ ((P.main.file : Str) == file) = true
theorem methcall_eq {o : Expr} {name : Str} {ap p2 : Pos} {e1 : Expr} {env : PySem.Env} (hse : starEach [e1] env = [(false, eval e1 env)]) (hp : (ap.endLine == p2.line) = true) : eval (.Call (.Attribute o name ap) [e1] [] p2) env = (do
      let ov ← attributeBase o name env (eval o env)
      standAt ap.atName
      let (f, first) ← holding [ov] (getMethod ov name (do return (← importBound o env).getD true))
      callWith p2 f first (backTo p2 (starEach [e1] env)) []) := by
  have hform : methodCallForm ([e1].length + ([] : List Keyword).length) (backTo p2 (starEach [e1] env)) (backToKw p2 (keywordEach [] env)) = true := by
    rw [hse]
    rfl
  have hpos : methodCallPos true o env ap p2 = pure p2 := by
    unfold methodCallPos
    rw [hp]
    rfl
  have hke : backToKw p2 (keywordEach [] env) = [] := rfl
  rw [arm_eval_Call]
  unfold methodCall
  rw [hform, hpos, hke]
  rfl
theorem fn_super {k : Nat} {name : Str} {params : Arguments} {rest : List Stmt} {dV kV doc pm ct oc : Value} {an od : Option Addr} {osl : Array (Option Value)} {C D cda f2 : Addr} {p0 p1 p2 p3 ap cp : Pos} {z : Str} {j : Nat} {ar : Arg} {sp sp0 : Sp}
    (lk : K.lookup f = some ⟨oc, od, .func (PySem.W.ksFn name qual params (.Expr (.Call (.Attribute (.Call (.Name "super" p0) [] [] p1) "__init__" ap) [.Constant (.str z) j cp] [] p2) p3 :: rest) scope dV kV doc pm an (.ref cda) ct cc), osl⟩)
    (hcd : PySem.W.codeIn K (.ref cda) qual = true) (S : ScS N scope) (hpar : (params.posonlyargs ++ params.args).head? = some ar) (har : ar.arg = "self") (hap : (ap.endLine == p2.line) = true) (U : SupK K P mg C D cc cda f2) (F : FnR P w K mg base cx k f2 sp0)
    (hx : ∀ A outer s H E, Passes cx (cxS cx P w K mg base N qual scope f (.ref cda) cc A outer s H E) E)
    (len : ∀ vs H Q E, sp vs H Q E → vs.length = 1)
    (hbody : ∀ (A : Around) (outer : List PySem.Env) (s : Shared) (H : Hp) (v : V) (Q : VK) (E : XK), Room k (A.deeper (PySem.W.ksEnv qual scope s.heap.objs.size f (.ref cda) cc)) → sp [v] H Q E → ∃ a dx fs t, v = .ref a ∧ H a = some (.ins C dx fs) ∧
      PSs (cxS cx P w K mg base N qual scope f (.ref cda) cc A outer s H E) rest t ∧ sp0 [.ref a, .str z] H (fun _ H1 => t { nx := fun _ H' => Q .non H', rt := Q } (L2.start N [.ref a]) H1) E) :
    FnOk P w K mg base cx (k + 1) f (PySem.W.ksFn name qual params (.Expr (.Call (.Attribute (.Call (.Name "super" p0) [] [] p1) "__init__" ap) [.Constant (.str z) j cp] [] p2) p3 :: rest) scope dV kV doc pm an (.ref cda) ct cc) ["self"] sp := by
  refine ⟨len, fun A outer s H args us vs Q E hr e0 hb r hsp => ?_⟩
  have hl := len _ _ _ _ hsp
  obtain ⟨v, rfl⟩ : ∃ v, vs = [v] := by
    match vs, hl with
    | [v], _ => exact ⟨v, rfl⟩
  obtain ⟨u, rfl, ru⟩ : ∃ u, us = [u] ∧ RelV v u := by
    cases r with
    | cons r1 r2 =>
      cases r2
      exact ⟨_, rfl, r1⟩
  have KX : K.In s.heap := e0.mod.kin.keeps fun b o e => (e0.bs b o e).1
  have lim : s.heap.NoLimit := e0.mod.nolimit.keeps fun b o e => (e0.bs b o e).1
  obtain ⟨cl, cld, csl, hcell⟩ := U.cell
  obtain ⟨cdD, hD⟩ := U.clsD
  obtain ⟨cdC, hC⟩ := U.clsC
  obtain ⟨ccl, cdd, vs, ccs, file, tf, hcode, hvs, hfile⟩ := U.file
  refine ks_codeAny_call_defAt (binds := [("self", u)]) hr.depth (KX _ _ lk) rfl lim (PySem.W.codeRec_of KX hcd) rfl hb S.nocell (fun y hy => ?_) (fun h₀ hns kp => ?_) S.co S.gen S.kind
  · rcases List.mem_cons.mp hy with e | e
    · rw [e]
      exact S.par
    · cases e
  obtain ⟨a, dx, fs, t, rfl, hins, hps, hsp0⟩ := hbody A outer s H v Q E (hr.deeper _) hsp
  obtain rfl : u = Value.ref a := ru
  have I0 : Inv (cxS cx P w K mg base N qual scope f (.ref cda) cc A outer s H E) [] (L2.start N [.ref a]) H { s with heap := h₀, toks := s.toks + 1 } := inv_startS S hr.hd e0 ⟨_, _, e0.mod.kin _ _ hcell, rfl⟩ rfl hns kp
  have X0 : K.In h₀ := KX.keeps kp
  obtain ⟨oD, hD1, hD2⟩ : ∃ oD, h₀.get? D = some oD ∧ oD.data = .cls cdD := by
    unfold PySem.W.clsIn at hD
    split at hD
    · rename_i c d cd' sl ho
      cases hD
      exact ⟨_, X0 _ _ ho, rfl⟩
    · cases hD
  obtain ⟨mA, O, rr, _, _, _⟩ := ins_get I0.hok hins
  obtain ⟨odx, J, hlk⟩ := O.look
  obtain ⟨mb, hb1, hb2⟩ := e0.mod.blt
  have hint : interactive (PySem.W.ksEnv qual scope s.heap.objs.size f (.ref cda) cc) = false := by
    unfold interactive
    rw [show (PySem.W.ksEnv qual scope s.heap.objs.size f (.ref cda) cc).scope.kind = .function from S.kind]
    rfl
  refine ks_wpAt_execs_cons (env := PySem.W.ksEnv qual scope s.heap.objs.size f (.ref cda) cc) (ks_wpAt_Expr_any (ks_wpAt_MethodCall ?_ (methcall_eq rfl hap)) hint rfl)
  refine ks_wpAt_super_base (env := PySem.W.ksEnv qual scope s.heap.objs.size f (.ref cda) cc) S.sup S.cls (by decide) rfl (X0 _ _ lk) rfl hpar rfl (X0 _ _ hcode) rfl hvs hfile U.top ?_
  refine PySem.W.ks_loadName_global S.kind S.sup (Calls.loadGlobal_builtin (env := PySem.W.ksEnv qual scope s.heap.objs.size f (.ref cda) cc) (mb := mb) (e0.mod.glob.keeps fun b o e => I0.bk b o e) U.mgs (hb1.keeps fun b o e => I0.bk b o e) ((hb2 _ (by decide)).trans rfl) ⟨rfl, ?_⟩)
  refine wpAny_loadName_free S.kind S.cls rfl ⟨_, X0 _ _ hcell, rfl⟩ ?_
  rw [har]
  refine wpAny_loadName_local S.kind S.par hns rfl ?_
  refine ks_wpAny_isType_cls hD1 hD2 ⟨rfl, ?_⟩
  refine ks_wpAny_call_super hD1 hD2 J.at_ J.cls (fun c e => ?_) (PySem.W.looks_mroIn X0 U.sub) (fun h' e kp' => ?_)
  · have := J.no
    unfold PySem.W.notCls at this
    rw [e] at this
    exact Bool.noConfusion this
  have I1 : Inv (cxS cx P w K mg base N qual scope f (.ref cda) cc A outer s H E) [(h₀.objs.size, PySem.W.ks_superObj D a C)] (L2.start N [.ref a]) H { s with heap := h', toks := s.toks + 1 } :=
    ClX.pin_new (s := { s with heap := h₀, toks := s.toks + 1 }) (t' := s.toks + 1) I0 kp' (Nat.le_refl _) e fun v z => nomatch z
  obtain ⟨of, hof, hofc⟩ : ∃ of, h'.get? f2 = some of ∧ of.cls = .type "function" := by
    have ht' : (K.lookup f2).map (·.cls) = some (.type "function") := U.ty
    cases z : K.lookup f2 with
    | none => rw [z] at ht'; cases ht'
    | some of => rw [z] at ht'; exact ⟨of, (X0.keeps kp') _ _ z, Option.some.inj ht'⟩
  have hm := U.sup
  unfold PySem.W.ks_superIn at hm
  rw [hC] at hm
  have X1 : K.In h' := X0.keeps kp'
  refine ks_wpAny_getMethod_super e (PySem.W.looks_opaque X1 U.op) (l₀ := cdC.mro) ?_ rfl X1 hm hof hofc (PySem.W.ks_ne X0 J hC) (by decide) ?_
  · exact fun A Q E s k q => wpAny_bind ((PySem.W.looks_clsIn X1 hC) A _ E s k (wpAny_pure q))
  have I2 := ClX.met_new (g := f2) (C := a) I1
  have z := ClX.callwith_cm (X := cxS cx P w K mg base N qual scope f (.ref cda) cc A outer s H E) (pos := p2) (e := .Constant (.str z) j cp) (es := []) (Q := EP (cxS cx P w K mg base N qual scope f (.ref cda) cc A outer s H E) [(h₀.objs.size, PySem.W.ks_superObj D a C)] (L2.start N [.ref a]) fun _ H1 => t { nx := fun _ H' => Q .non H', rt := Q } (L2.start N [.ref a]) H1)
    (E := (cxS cx P w K mg base N qual scope f (.ref cda) cc A outer s H E).xe) (A := (cxS cx P w K mg base N qual scope f (.ref cda) cc A outer s H E).A) I2 (ClX.base_none I1 (Nat.le_refl _)) U.fi
    (thn ((pa_cons pe_str pa_nil).run _ _ _ (L2.start N [.ref a]) H (fun vs H2 => vs = [.str z] ∧ H2 = H) I2 ⟨rfl, rfl⟩) fun us s3 ⟨vs, H2, I3, rv, q1, q2⟩ => ⟨⟨ClX.pin_at I3, I3.kIn⟩, by
      subst q1
      subst q2
      exact ClX.run_cm F (hr.deeper _) (hx _ _ _ _ _) I3 rv hsp0⟩) rfl rfl
  refine wpAny_mono z (fun v s4 hv => ?_) fun _ _ y => y
  obtain ⟨v, H1, I4, rv, ht⟩ := hv
  refine wpAt_of_wpAny (wpAny_mono (hps.run _ s4 (L2.start N [.ref a]) H1 _ I4 ht) (fun fl s' hs => ?_) fun e s' hs => hs)
  have fin : ∀ {σ' : L2.St} {H' : Hp} {v : V} {u : Value}, Inv (cxS cx P w K mg base N qual scope f (.ref cda) cc A outer s H E) [(h₀.objs.size, PySem.W.ks_superObj D a C)] σ' H' s' → RelV v u → Q v H' → CE outer P w H s Q u s' :=
    fun {σ' H' v u} J rv q => ⟨v, H', J.os, J.bare, J.base, J.hok, rv, q⟩
  cases fl with
  | ret u =>
    obtain ⟨v, σ', H', J, rv, q⟩ := hs
    exact fin J rv q
  | next =>
    obtain ⟨σ', H', J, q⟩ := hs
    exact fin (v := V.non) (u := Value.none) J rfl q
  | brk =>
    obtain ⟨_, _, _, q⟩ := hs
    exact False.elim q
  | cont =>
    obtain ⟨_, _, _, q⟩ := hs
    exact False.elim q
end
end M
end
section
namespace M
open PySem PySem.Spec PyProof.Rows L2
abbrev XB (X : Cx) (pa : Addr × Obj) (s : Shared) (H : Hp) (scope : Scope) (ce : PySem.Env) (fp : List Addr) : Cx := (X.blk s H scope ce fp).tr [pa] (fun _ _ => False)
def tLcH (n : Nat) (g : TG) (tt : TT) (te : TE) (vs : List Nat) : TE := fun σ H Q => ∀ D, H D = none → ∃ P : Nat → Hp → Prop, P 0 (upd H D (.lst [])) ∧
  (∀ i H1, i < n → P i H1 → g (.int i) (wipe σ vs) H1 fun σ2 H2 => wipe σ2 vs = wipe σ vs ∧ tt σ2 H2 fun b H3 => if b = true then te σ2 H3 fun y H4 => ∃ acc, H4 D = some (.lst acc) ∧ acc.length < sizeLine ∧ P (i + 1) (upd H4 D (.lst (acc ++ [y]))) else P (i + 1) H3) ∧
  ∀ H1, P n H1 → Q (.ref D) H1
section
variable {X : Cx}
theorem pe_lcH {pa : Addr × Obj} {n : Nat} {elt tg iter : Expr} {ifs : List Expr} {scope : Scope} {own : List (Str × Nat)} {pos : Pos} {g : TG} {tt : TT} {te : TE} (hot : L2H.Hot1 X.A pa) (hpa : pa ∈ X.pn) (hN : X.N.Nodup) (hi : L2H.PIH X tg iter (iRng1 (tCons (tC (.int n)) tNil))) (hn : n ≤ 1000) (ok : BlkOk X.N X.env.scope scope own)
    (hg : ∀ (s : Shared) (H : Hp) (C : Addr) (cl : List (Str × Addr)) (fp : List Addr), PG (XB X pa s H scope (compEnvC scope cl C X.env) fp) tg g) (ht : ∀ (s : Shared) (H : Hp) (C : Addr) (cl : List (Str × Addr)) (fp : List Addr), PTs (XB X pa s H scope (compEnvC scope cl C X.env) fp) ifs tt)
    (he : ∀ (s : Shared) (H : Hp) (C : Addr) (cl : List (Str × Addr)) (fp : List Addr), PE (XB X pa s H scope (compEnvC scope cl C X.env) fp) elt te) (hs : ∀ x, foldedSetIterable iter X.env x = pure x := by intro _; rfl) :
    PE X (.ListComp elt [⟨tg, iter, ifs, 0⟩] scope pos) (tLcH n g tt te (own.map (·.2))) := by
  refine ⟨fun pins s σ H Q I h => ?_⟩
  rw [eval_ListComp]
  show wpAny _ X.A (comprehension (.ListComp elt [⟨tg, iter, ifs, 0⟩] scope pos) scope X.env (firstIterPos [⟨tg, iter, ifs, 0⟩] pos) (newList []) false (eval iter X.env) none) _ _ s
  have hfree : ∀ y ∈ scope.names, y.2 = .free → ∃ c, X.env.cells.lookup y.1 = some c := fun y hy e => (ok.free y hy e).elim (fun k => I.ok.has _ (.inl k)) fun k => I.ok.has _ (.inr k)
  refine wpAny_comprehension_free (use := none) rfl hs (closure_ok hfree) ok.kind (fun y hy e => by rw [ok.uniq y hy, e])
    (thn (hi.run pins s σ H (fun J H' => J = Itr 0 n ∧ H' = H) I ⟨n, rfl, by omega, by omega, by rw [Int.toNat_natCast], rfl⟩) fun xv s1 hx => thn hx fun itv s2 h2 => ?_)
  obtain ⟨it, fp, tn, J, H2, e, I2, T, st2, f2, eJ, eH⟩ := h2
  subst e eJ eH
  refine wpAny_newObj_type (newEnv_comp ?_) (by show 0 ≤ sizeLine; decide)
  generalize hD : s2.heap.objs.size = D
  have hDn : H2 D = none := I2.hok.fresh (Nat.le_of_eq hD)
  obtain ⟨P, P0, step, last⟩ := h D hDn
  generalize hs3 : ({ s2 with heap := s2.heap.push { cls := .type "list", data := .seq ([] : List Value).toArray } } : Shared) = s3
  have h3 : s3.heap = s2.heap.push { cls := .type "list", data := .seq ([] : List Value).toArray } := by rw [← hs3]
  have I3 : Inv X pins σ (upd H2 D (.lst [])) s3 := by
    rw [← hs3]
    refine I2.laid (t' := s2.toks) (fun b o e => Heap.get?_push_of_some _ e) (Nat.le_of_eq hD) ⟨Nat.zero_le _, [], 0, .nil, ?_⟩
    rw [← hD]
    exact Heap.get?_push_size _ rfl
  have sz : ∀ b ∈ fp, b < s2.heap.objs.size := fun b hb => by
    obtain ⟨o, e, _⟩ := T.obj _ _ st2 b hb
    exact Heap.lt_size e
  have f3 : ∀ b ∈ fp, FpOk X pins (upd H2 D (.lst [])) b ∧ b < s3.heap.objs.size := fun b hb => ⟨⟨by
    rw [upd_ne (by rw [← hD]; exact Nat.ne_of_lt (sz b hb))]
    exact (f2 b hb).1, (f2 b hb).2⟩, by
    rw [h3, Heap.size_push]
    exact Nat.lt_succ_of_lt (sz b hb)⟩
  have st3 : tn 0 s3.heap := T.keep _ _ _ st2 fun b _ o e => by
    rw [h3]
    exact Heap.get?_push_of_some _ e
  have I4 := block_start I3 ok hN f3
  have pg := hg s3 (upd H2 D (.lst [])) s3.heap.objs.size (cellsFrom (s3.heap.objs.size + 1) scope.names (cloFrom X.env.cells scope.names [])) fp
  have pt := ht s3 (upd H2 D (.lst [])) s3.heap.objs.size (cellsFrom (s3.heap.objs.size + 1) scope.names (cloFrom X.env.cells scope.names [])) fp
  have pe := he s3 (upd H2 D (.lst [])) s3.heap.objs.size (cellsFrom (s3.heap.objs.size + 1) scope.names (cloFrom X.env.cells scope.names [])) fp
  show codeAny _ _ (.compStart (.ListComp elt [⟨tg, iter, ifs, 0⟩] scope pos) 0 (.ref it) (.ref D) (compEnvC scope (cellsFrom (s3.heap.objs.size + 1) scope.names (cloFrom X.env.cells scope.names [])) s3.heap.objs.size X.env)) (compPost (model X.prog X.w) X.A X.xe none (EP X pins σ Q) (.ref D) s3.heap.objs.size) { s3 with heap := pushCells (s3.heap.push { cls := .type "dict", data := .dict #[] }) scope.names }
  have nfp : ∀ b ∈ fp, (upd H2 D (.lst [])) b = none := fun b hb => (f3 b hb).1.1
  generalize hce : compEnvC scope (cellsFrom (s3.heap.objs.size + 1) scope.names (cloFrom X.env.cells scope.names [])) s3.heap.objs.size X.env = ce at I4 pg pt pe ⊢
  have cL : ce.locals = s3.heap.objs.size := by
    subst hce
    rfl
  generalize upd H2 D (.lst []) = H3 at I3 I4 pg pt pe P0 nfp f3
  generalize hs4 : ({ s3 with heap := pushCells (s3.heap.push { cls := .type "dict", data := .dict #[] }) scope.names } : Shared) = s4 at I4 ⊢
  have k34 : ∀ b o, s3.heap.get? b = some o → s4.heap.get? b = some o := fun b o e => by
    rw [← hs4]
    exact pushCells_keeps _ _ _ _ (Heap.get?_push_of_some _ e)
  have st4 : tn 0 s4.heap := T.keep _ _ _ st3 fun b _ o e => k34 b o e
  -- the exception goes with us
  have pin3 := I3.pin pa (List.mem_append_left _ hpa)
  have I5 : Inv (XB X pa s3 H3 scope ce fp) [] (wipe σ (own.map (·.2))) H3 s4 := by
    have J : Inv (X.blk s3 H3 scope ce fp) [pa] (wipe σ (own.map (·.2))) H3 s4 := I4.pins_of fun p hp => by
      obtain rfl : p = pa := List.mem_singleton.mp hp
      refine ⟨k34 _ _ pin3.1, pin3.2.1, ?_, fun hm => (List.mem_cons.mp (I3.stkSub p.1 hm)).elim pin3.2.2.1 pin3.2.2.2.1, pin3.2.2.2.2⟩
      show p.1 ≠ ce.locals
      rw [cL]
      exact Nat.ne_of_lt (Heap.lt_size pin3.1)
    exact J.toTry _
  have hotB : L2H.HotC (XB X pa s3 H3 scope ce fp) := ⟨pa, hot, List.mem_singleton.mpr rfl⟩
  have stat : ∀ {σ' : L2.St} {H' : Hp} {s' : Shared}, Inv (XB X pa s3 H3 scope ce fp) [] σ' H' s' → (∀ b ∈ fp, H' b = none) → ∀ b ∈ fp, FpOk (XB X pa s3 H3 scope ce fp) [] H' b := fun {σ' H' s'} I' hnb b hb =>
    ⟨hnb b hb, (I'.ok.exf b hb).1, I'.ok.exfs b hb, .inl hb, fun x c e => (I'.ok.exf b hb).2 x c e, fun p hp => by
      rw [List.append_nil] at hp
      obtain rfl : p = pa := List.mem_singleton.mp hp
      exact (f3 b hb).1.2.2.2.2.2 p (List.mem_append_left _ hpa)⟩
  have loop : codeAny (model X.prog X.w) X.A (.compLoop (.ListComp elt [⟨tg, iter, ifs, 0⟩] scope pos) 0 (.ref it) (.ref D) ce) (compPost (model X.prog X.w) X.A X.xe none (EP X pins σ Q) (.ref D) s3.heap.objs.size) s4 := by
    refine compLoop_any (fun m s' => ∃ i H', Inv (XB X pa s3 H3 scope ce fp) [] (wipe σ (own.map (·.2))) H' s' ∧ tn i s'.heap ∧ (∀ b ∈ fp, H' b = none) ∧ i + m = n ∧ P i H') ?_ n ⟨0, H3, I5, st4, nfp, Nat.zero_add _, P0⟩
    rintro m s5 ⟨i, H5, I6, st5, n5, hm, p5⟩
    by_cases hin : i < n
    · have ti := T.item (XB X pa s3 H3 scope ce fp) rfl rfl rfl hotB i [] s5 _ H5 (fun _ _ => False) I6 (stat I6 n5) st5 (show i < n from hin)
      refine thnF ti fun r s6 ⟨u, hr, h6⟩ => ?_
      subst hr
      refine thnF h6 fun _ s7 ⟨x, H7, I7, r7, y7, st7, n7⟩ => ?_
      obtain ⟨ex, eh⟩ := y7
      subst ex eh
      have I7' := I7.pinned (stat I7 n7) (T.obj _ _ st7)
      rw [show (0 : Int) + i = i by omega] at r7
      refine thnF (pg.run _ s7 _ H7 (.int i) u _ I7' r7 (step i H7 hin p5)) fun _ s8 ⟨σ8, H8, I8, hw8, q8⟩ => ?_
      refine thnF (pt.run _ s8 σ8 H8 _ I8 q8) fun b s9 ⟨H9, I9, q9⟩ => ?_
      have fin : ∀ {s' : Shared} {H' : Hp}, Inv (XB X pa s3 H3 scope ce fp) ([] ++ pinsAt fp s7.heap) σ8 H' s' → P (i + 1) H' → ∃ m', m' < m ∧ ∃ i H', Inv (XB X pa s3 H3 scope ce fp) [] (wipe σ (own.map (·.2))) H' s' ∧ tn i s'.heap ∧ (∀ b ∈ fp, H' b = none) ∧ i + m' = n ∧ P i H' := fun {s' H'} I' nx => by
        have pin' : ∀ b ∈ fp, ∀ o, s7.heap.get? b = some o → s'.heap.get? b = some o ∧ H' b = none := fun b hb o e =>
          let z := I'.pin (b, o) (List.mem_append_right _ (List.mem_append_right _ (mem_pinsAt hb e)))
          ⟨z.1, z.2.1⟩
        refine ⟨m - 1, by omega, i + 1, H', (I'.unpinned (pins := [])).weak (by rw [← hw8, wipe_length]) (fun j v e => ?_), T.keep _ _ _ st7 fun b hb o e => (pin' b hb o e).1, fun b hb => ?_, by omega, nx⟩
        · rw [← hw8] at e
          exact (wipe_some e).1
        · obtain ⟨o, e, _⟩ := T.obj _ _ st7 b hb
          exact (pin' b hb o e).2
      cases b with
      | false => exact fin I9 q9
      | true =>
        refine thnF (pe.run _ s9 σ8 H9 _ I9 q9) fun z s10 ⟨yv, H10, I10, r10, acc, hD10, hz10, nx⟩ => ?_
        exact app_ok (X := XB X pa s3 H3 scope ce fp) I10 hD10 hz10 r10 fun s11 I11 => fin I11 nx
    · have ei : i = n := by omega
      subst ei
      have td := T.done (XB X pa s3 H3 scope ce fp) rfl rfl rfl hotB i [] s5 _ H5 (fun _ _ => False) I6 (stat I6 n5) st5 (Nat.le_refl _)
      refine thnF td fun r s6 ⟨hr, I7⟩ => ?_
      subst hr
      have I8 : Inv X pins σ H5 s6 := I3.call' (ch := fp) I7.os I7.base I7.hok I7.bare fun b hb => ⟨(f3 b hb).1.2.2.2.1, (f3 b hb).1.2.1, (f3 b hb).1.2.2.2.2.1, (f3 b hb).1.2.2.2.2.2⟩
      have nC : H5 s3.heap.objs.size = none := by
        have z : H5 ce.locals = none := I7.free
        rw [cL] at z
        exact z
      obtain ⟨mm, hnn, _⟩ := I7.loc
      have hnn : s6.heap.Ns ce.locals mm := hnn
      rw [cL] at hnn
      refine ⟨mm, hnn, fun h'' sb => ?_⟩
      obtain ⟨f0, f1, f2, f3, f4, f5⟩ := I3.fpOk (Nat.le_refl _) nC
      exact ⟨.ref D, H5, I8.turned (t' := s6.toks) (fun b o hb e => (sb.2 b hb).trans e) f0 f1 f3 f4 f5, rfl, last _ p5⟩
  exact codeAny_compStart_list loop (T.self X.A 0 _ _ _ st4 loop)
end
end M
end
section
namespace M
open PySem PySem.Spec PyProof.Rows L2
theorem Rl.grow {W : Wd} {S : Ss} {H' : Hp} (R : Rl W S) (h : Same S.H H') : Ss.le S { S with H := H' } ∧ Rl W { S with H := H' } := by
  have ex : ∀ a u, hid S a = some u → hid { S with H := H' } a = some u := fun a u e => by
    obtain ⟨h1, h2⟩ := hid_some.mp e
    exact hid_some.mpr ⟨h _ _ h1, h2⟩
  have l : Ss.le S { S with H := H' } := ⟨⟨Ext.of_ex ex, fun _ _ => rfl, Nat.le_refl _⟩, rfl⟩
  refine ⟨l, ⟨R.inj, R.lt, fun k c e => ?_, fun a ha => tab_ext l.1.1 (R.tab a ha), fun a u e => ⟨h _ _ (R.prv a u e).1, (R.prv a u e).2⟩, lam_ex R.lam ex⟩⟩
  have e2 : H' (S.ρ k) = S.H (S.ρ k) := by
    obtain ⟨o, e3⟩ := R.live e
    rw [h _ _ e3, e3]
  exact (R.ok k c e).mono l.1 e2
theorem call_isP {X : Cx} {D : Addr} {pa : Addr × Obj} (C : ExcC X.K D) (h1 : pa.2.cls = .ref D) (h2 : pa.2.dict = none) (hf : ∃ vs, pa.2.data = .fields vs) (hp : pa ∈ X.pn) : CallR X (.builtin "isinstance") (rIsE X.K D pa.1) := by
  intro pins s σ H xs us Q I r h
  obtain ⟨c, cv, b, rfl, hcv, e, q⟩ := h
  cases r with
  | cons rx rr =>
    cases rr with
    | cons rt rr =>
      cases rr
      cases rx
      have ec := hcv _ rt
      subst ec
      obtain ⟨hget, _⟩ := I.pin pa (List.mem_append_left _ hp)
      obtain ⟨a, oc, od, oda, osl⟩ := pa
      obtain ⟨vs, hv⟩ := hf
      dsimp only at h1 h2 hv hget
      subst h1 h2 hv
      exact PySem.W.kia_one (PySem.W.handS_kitx_exc C.hg C.hk C.hs C.hd C.ha C.hn C.ht C.hm) I.kIn ⟨hget, rfl, rfl, trivial⟩ e (fun z => nomatch z) fun tk => ⟨.bl b, H, I.kept (t' := tk) fun _ _ z => z, rfl, q⟩
def isI (e : Expr) (c : Str) : Bool := match e with
  | .Call (.Name f _) [.Name a _, .Name x _] [] _ => decide (f = "isinstance") && (decide (a = "_law_e") && decide (x = c))
  | _ => false
theorem isI_ok {e : Expr} {c : Str} (h : isI e c = true) : ∃ p1 p2 p3 p4, e = .Call (.Name "isinstance" p1) [.Name "_law_e" p2, .Name c p3] [] p4 := by
  unfold isI at h
  split at h
  · simp only [Bool.and_eq_true, decide_eq_true_eq] at h
    obtain ⟨rfl, rfl, rfl⟩ := h
    exact ⟨_, _, _, _, rfl⟩
  · cases h
def isC (e : Expr) (z : Str) : Bool := match e with
  | .Constant (.str x) _ _ => decide (x = z)
  | _ => false
theorem isC_ok {e : Expr} {z : Str} (h : isC e z = true) : ∃ j p, e = .Constant (.str z) j p := by
  unfold isC at h
  split at h
  · rw [decide_eq_true_eq] at h
    subst h
    exact ⟨_, _, rfl⟩
  · cases h
def isN (e : Expr) (z : Str) : Bool := match e with
  | .Name x _ => decide (x = z)
  | _ => false
theorem isN_ok {e : Expr} {z : Str} (h : isN e z = true) : ∃ p, e = .Name z p := by
  unfold isN at h
  split at h
  · rw [decide_eq_true_eq] at h
    subst h
    exact ⟨_, rfl⟩
  · cases h
def kindNames : List Str := ["unreadable", "invalid", "full", "batches", "closed", "none"]
def kindCls : List Str := ["Unreadable", "InvalidCommand", "BatchFull", "TooManyBatches", "NotClosed", "NoSuchBatch"]
def compB (e : Expr) : Option Scope := match e with
  | .ListComp (.Subscript a b _) [⟨tg, .Call (.Name r _) [.Constant (.int i) _ _] [] _, [.BoolOp .And [.Subscript c d _, f] _], as⟩] scope _ =>
    if (isN a "_law_names" && isN b "_law_k" && (isN tg "_law_k" && decide (r = "range") && (decide (i = 6) && isN c "_law_kinds_here")) && (isN d "_law_k" && isI f "EndError" && decide (as = 0))) = true then some scope else none
  | _ => none
theorem compB_ok {e : Expr} {scope : Scope} (h : compB e = some scope) : ∃ p1 p2 p3 p4 p5 j p6 p7 p8 p9 pa pb f pc, isI f "EndError" = true ∧
    e = .ListComp (.Subscript (.Name "_law_names" p1) (.Name "_law_k" p2) p3) [⟨.Name "_law_k" p4, .Call (.Name "range" p5) [.Constant (.int 6) j p6] [] p7, [.BoolOp .And [.Subscript (.Name "_law_kinds_here" p8) (.Name "_law_k" p9) pa, f] pb], 0⟩] scope pc := by
  unfold compB at h
  split at h
  · split at h
    · rename_i hc
      cases h
      simp only [Bool.and_eq_true, decide_eq_true_eq] at hc
      obtain ⟨⟨⟨h1, h2⟩, ⟨h3, h4⟩, h5, h6⟩, ⟨h7, h8⟩, h9⟩ := hc
      obtain ⟨_, rfl⟩ := isN_ok h1
      obtain ⟨_, rfl⟩ := isN_ok h2
      obtain ⟨_, rfl⟩ := isN_ok h3
      obtain ⟨_, rfl⟩ := isN_ok h6
      obtain ⟨_, rfl⟩ := isN_ok h7
      subst h4 h5 h9
      exact ⟨_, _, _, _, _, _, _, _, _, _, _, _, _, _, h8, rfl⟩
    · cases h
  · cases h
def kindsB (sts : List Stmt) : Option Scope := match sts with
  | [.Assign [a] (.List [b1, b2, b3] _) _, .Assign [c] (.BinOp d .Add (.List [b4, b5, b6] _) _) _, .Assign [e] (.List [n1, n2, n3, n4, n5, n6] _) _, .Return (some r) _] =>
    if (isN a "_law_kinds_here" && isI b1 "Unreadable" && (isI b2 "InvalidCommand" && isI b3 "BatchFull") && (isN c "_law_kinds_here" && isN d "_law_kinds_here" && (isI b4 "TooManyBatches" && isI b5 "NotClosed")) && (isI b6 "NoSuchBatch" && isN e "_law_names" && (isC n1 "unreadable" && isC n2 "invalid")) && (isC n3 "full" && isC n4 "batches" && (isC n5 "closed" && isC n6 "none"))) = true then compB r else none
  | _ => none
structure KindK (K : PySem.W.Frag) (mg : Str → Option Value) (D : Addr) (j : Nat) : Prop where
  C : ExcC K D
  end_ : ∃ a, mg "EndError" = some (.ref a) ∧ PySem.W.kitOne K (.ref D) (.ref a) = some true
  six : ∀ i x, kindCls[i]? = some x → ∃ a, mg x = some (.ref a) ∧ PySem.W.kitOne K (.ref D) (.ref a) = some (decide (i = j))
def kindN : List Str := ["_law_e", "_law_kinds_here", "_law_names", "_law_k"]
def kindsC (sc : Scope) (sts : List Stmt) : Bool := match kindsB sts with
  | some scope => blkC kindN sc scope [("_law_k", 3)] && (visB sc "_law_e" && visB sc "_law_kinds_here" && visB sc "_law_names") && (glB sc "isinstance" && glB sc "range" && (kindCls.all fun x => glB sc x)) && (visB (relS scope sc) "_law_e" && visB (relS scope sc) "_law_kinds_here" && (visB (relS scope sc) "_law_names" && visB (relS scope sc) "_law_k")) && (glB (relS scope sc) "isinstance" && glB (relS scope sc) "EndError") && (decide (sc.names.lookup ("_law_kinds_here" : Str) ≠ some .free) && decide (sc.names.lookup ("_law_names" : Str) ≠ some .free) && decide ((relS scope sc).names.lookup ("_law_k" : Str) = some .local))
  | none => false
section
variable {X : Cx}
theorem pe_isI {D : Addr} {pa : Addr × Obj} {c : Str} {a : Addr} {b : Bool} {p1 p2 p3 p4 : Pos} (C : ExcC X.K D) (h1 : pa.2.cls = .ref D) (h2 : pa.2.dict = none) (hf : ∃ vs, pa.2.data = .fields vs) (hp : pa ∈ X.pn) (hN : X.N[0]? = some ("_law_e" : Str)) (hv : visB X.env.scope "_law_e" = true)
    (hg : glB X.env.scope "isinstance" = true) (hm : X.mg "isinstance" = none) (hgc : glB X.env.scope c = true) (hmc : X.mg c = some (.ref a)) (hk : PySem.W.kitOne X.K (.ref D) (.ref a) = some b) (hd : (c == ("__debug__" : Str)) = false) :
    PE X (.Call (.Name "isinstance" p1) [.Name "_law_e" p2, .Name c p3] [] p4) (fun σ H Q => σ[0]? = some (some (.ref pa.1)) ∧ Q (.bl b) H) := by
  refine PE.weak (pe_callB (call_isP C h1 h2 hf hp) (gl_of hg) hm (show bootBuiltins "isinstance" = some (.builtin "isinstance") by decide +kernel) (pa_cons (pe_var hN (vis_of hv)) (pa_cons (pe_glob (gl_of hgc) hmc (v := .ref a) rfl hd) pa_nil))) fun σ H Q h => ?_
  exact ⟨.ref pa.1, h.1, .ref a, .ref a, b, rfl, fun u r => r, hk, h.2⟩
theorem same_upd {H : Hp} {p : Addr} {o : HO} (h : H p = none) : Same H (upd H p o) := fun b u e => (upd_ne (ne_of_none e h)).trans e
theorem kinds_ps {D : Addr} {pa : Addr × Obj} {j : Nat} {nm : Str} {sts : List Stmt} (KK : KindK X.K X.mg D j) (hnm : kindNames[j]? = some nm) (h1 : pa.2.cls = .ref D) (h2 : pa.2.dict = none) (hot : L2H.Hot1 X.A pa) (hp : pa ∈ X.pn) (hN : X.N = kindN) (hfn : ∀ x, X.fn x = true)
    (hm : X.mg "isinstance" = none) (hmr : X.mg "range" = none) (hc : kindsC X.env.scope sts = true) : ∃ t, PSs X sts t ∧ ∀ (H : Hp) (Q : VK), (∀ a H', Same H H' → H' a = some (.lst [.str nm]) → Q (.ref a) H') → t { nx := fun _ H' => Q .non H', rt := Q } [some (.ref pa.1), none, none, none] H := by
  unfold kindsC at hc
  split at hc
  · rename_i scope hb
    simp only [Bool.and_eq_true, decide_eq_true_eq] at hc
    obtain ⟨⟨⟨⟨⟨k1, ⟨k2, k3⟩, k4⟩, ⟨k5, k6⟩, k7⟩, ⟨k8, k9⟩, k10, k11⟩, k12, k13⟩, ⟨k14, k15⟩, k16⟩ := hc
    unfold kindsB at hb
    split at hb
    · split at hb
      · rename_i hc
        simp only [Bool.and_eq_true] at hc
        obtain ⟨⟨⟨⟨⟨a1, a2⟩, a3, a4⟩, ⟨a5, a6⟩, a7, a8⟩, ⟨a9, b1⟩, b2, b3⟩, ⟨b4, b5⟩, b6, b7⟩ := hc
        obtain ⟨_, rfl⟩ := isN_ok a1
        obtain ⟨_, _, _, _, rfl⟩ := isI_ok a2
        obtain ⟨_, _, _, _, rfl⟩ := isI_ok a3
        obtain ⟨_, _, _, _, rfl⟩ := isI_ok a4
        obtain ⟨_, rfl⟩ := isN_ok a5
        obtain ⟨_, rfl⟩ := isN_ok a6
        obtain ⟨_, _, _, _, rfl⟩ := isI_ok a7
        obtain ⟨_, _, _, _, rfl⟩ := isI_ok a8
        obtain ⟨_, _, _, _, rfl⟩ := isI_ok a9
        obtain ⟨_, rfl⟩ := isN_ok b1
        obtain ⟨_, _, rfl⟩ := isC_ok b2
        obtain ⟨_, _, rfl⟩ := isC_ok b3
        obtain ⟨_, _, rfl⟩ := isC_ok b4
        obtain ⟨_, _, rfl⟩ := isC_ok b5
        obtain ⟨_, _, rfl⟩ := isC_ok b6
        obtain ⟨_, _, rfl⟩ := isC_ok b7
        obtain ⟨_, _, _, _, _, _, _, _, _, _, _, _, f, _, hf, rfl⟩ := compB_ok hb
        obtain ⟨_, _, _, _, rfl⟩ := isI_ok hf
        have hfv : ∃ vs, pa.2.data = .fields vs := by
          obtain ⟨_, vs, e, _⟩ := hot
          exact ⟨vs, e⟩
        have hN0 : X.N[0]? = some ("_law_e" : Str) := by rw [hN]; rfl
        have hN1 : X.N[1]? = some ("_law_kinds_here" : Str) := by rw [hN]; rfl
        have hN2 : X.N[2]? = some ("_law_names" : Str) := by rw [hN]; rfl
        have hN3 : X.N[3]? = some ("_law_k" : Str) := by rw [hN]; rfl
        have hnd : X.N.Nodup := by rw [hN]; decide
        have ab : ∀ i x, kindCls[i]? = some x → ∃ a, X.mg x = some (.ref a) ∧ PySem.W.kitOne X.K (.ref D) (.ref a) = some (decide (i = j)) := KK.six
        have gk : ∀ x ∈ kindCls, glB X.env.scope x = true := List.all_eq_true.mp k7
        obtain ⟨c0, g0, i0⟩ := ab 0 _ rfl
        obtain ⟨c1, g1, i1⟩ := ab 1 _ rfl
        obtain ⟨c2, g2, i2⟩ := ab 2 _ rfl
        obtain ⟨c3, g3, i3⟩ := ab 3 _ rfl
        obtain ⟨c4, g4, i4⟩ := ab 4 _ rfl
        obtain ⟨c5, g5, i5⟩ := ab 5 _ rfl
        obtain ⟨ce, ge, ie⟩ := KK.end_
        have loc : ∀ {x : Str}, visB X.env.scope x = true → X.env.scope.names.lookup x ≠ some .free → Loc X.env.scope x := fun hv hne => by
          rcases vis_of hv with z | z | z
          · exact .inl z
          · exact .inr z
          · exact absurd z hne
        refine ⟨_, pss_cons (ps_asg (pe_lst (pa_cons (pe_isI KK.C h1 h2 hfv hp hN0 k2 k5 hm (gk _ (by decide)) g0 i0 (by decide)) (pa_cons (pe_isI KK.C h1 h2 hfv hp hN0 k2 k5 hm (gk _ (by decide)) g1 i1 (by decide)) (pa_cons (pe_isI KK.C h1 h2 hfv hp hN0 k2 k5 hm (gk _ (by decide)) g2 i2 (by decide)) pa_nil)))) (pg_name hnd hN1 (loc k3 k14) (.inl (hfn _))))
          (pss_cons (ps_asg (pe_op op_cat (pe_var hN1 (vis_of k3)) (pe_lst (pa_cons (pe_isI KK.C h1 h2 hfv hp hN0 k2 k5 hm (gk _ (by decide)) g3 i3 (by decide)) (pa_cons (pe_isI KK.C h1 h2 hfv hp hN0 k2 k5 hm (gk _ (by decide)) g4 i4 (by decide)) (pa_cons (pe_isI KK.C h1 h2 hfv hp hN0 k2 k5 hm (gk _ (by decide)) g5 i5 (by decide)) pa_nil))))) (pg_name hnd hN1 (loc k3 k14) (.inl (hfn _))))
          (pss_cons (ps_asg (pe_lst (pa_cons pe_str (pa_cons pe_str (pa_cons pe_str (pa_cons pe_str (pa_cons pe_str (pa_cons pe_str pa_nil))))))) (pg_name hnd hN2 (loc k4 k15) (.inl (hfn _))))
          (pss_cons (ps_ret (pe_lcH hot hp hnd (L2H.pi_range1H (gl_of k6) hmr (pa_cons pe_int pa_nil)) (by decide : 6 ≤ 1000) (blkOk_by (by rw [hN]; exact k1)) (fun s H C cl fp => pg_name (X := XB X pa s H scope (compEnvC scope cl C X.env) fp) hnd hN3 (.inl k16) (.inr k16))
            (fun s H C cl fp => pts_one (X := XB X pa s H scope (compEnvC scope cl C X.env) fp) ((pw_and (X := XB X pa s H scope (compEnvC scope cl C X.env) fp) (pt_val (X := XB X pa s H scope (compEnvC scope cl C X.env) fp) (pe_ix (r := rIxL X.K) (X := XB X pa s H scope (compEnvC scope cl C X.env) fp) (ix_list (X := XB X pa s H scope (compEnvC scope cl C X.env) fp)) (pe_var (X := XB X pa s H scope (compEnvC scope cl C X.env) fp) hN1 (vis_of k9)) (pe_var (X := XB X pa s H scope (compEnvC scope cl C X.env) fp) hN3 (vis_of k11)) (plainIx_of rfl))) (pw_and1 (X := XB X pa s H scope (compEnvC scope cl C X.env) fp) (pt_val (X := XB X pa s H scope (compEnvC scope cl C X.env) fp) (pe_isI (X := XB X pa s H scope (compEnvC scope cl C X.env) fp) KK.C h1 h2 hfv (List.mem_singleton.mpr rfl) hN0 k8 k12 hm k13 ge ie (by decide))))).pt))
            (fun s H C cl fp => pe_ix (r := rIxL X.K) (X := XB X pa s H scope (compEnvC scope cl C X.env) fp) (ix_list (X := XB X pa s H scope (compEnvC scope cl C X.env) fp)) (pe_var (X := XB X pa s H scope (compEnvC scope cl C X.env) fp) hN2 (vis_of k10)) (pe_var (X := XB X pa s H scope (compEnvC scope cl C X.env) fp) hN3 (vis_of k11)) (plainIx_of rfl)))) pss_nil))), fun H Q hQ => ?_⟩
        have hz : ∀ n : Nat, n ≤ 12 → n ≤ sizeLine := fun n h => by
          rw [sizeLine_eq]
          omega
        refine ⟨rfl, rfl, rfl, hz 3 (by decide), fun p1 q1 => ?_⟩
        refine ⟨.ref p1, rfl, rfl, rfl, rfl, hz 3 (by decide), fun p2 q2 => ?_⟩
        have n21 : p1 ≠ p2 := ne_of_none (o := .lst _) upd_same q2
        refine ⟨p1, p2, [V.bl (decide (0 = j)), V.bl (decide (1 = j)), V.bl (decide (2 = j))], [V.bl (decide (3 = j)), V.bl (decide (4 = j)), V.bl (decide (5 = j))], rfl, rfl, by rw [upd_ne n21, upd_same], by rw [upd_same], hz 6 (by decide), fun p3 q3 => ?_⟩
        refine ⟨hz 6 (by decide), fun p4 q4 => ?_⟩
        refine fun D' hD => ?_
        have n43 : p3 ≠ p4 := ne_of_none (o := .lst _) upd_same q4
        have s1 : Same H (upd H p1 (.lst [V.bl (decide (0 = j)), V.bl (decide (1 = j)), V.bl (decide (2 = j))])) := same_upd q1
        have s2 := same_upd (o := .lst [V.bl (decide (3 = j)), V.bl (decide (4 = j)), V.bl (decide (5 = j))]) q2
        have s3 := same_upd (o := .lst ([V.bl (decide (0 = j)), V.bl (decide (1 = j)), V.bl (decide (2 = j))] ++ [V.bl (decide (3 = j)), V.bl (decide (4 = j)), V.bl (decide (5 = j))])) q3
        have s4 := same_upd (o := .lst [V.str "unreadable", V.str "invalid", V.str "full", V.str "batches", V.str "closed", V.str "none"]) q4
        have hl3 := upd_same (H := upd (upd H p1 (.lst [V.bl (decide (0 = j)), V.bl (decide (1 = j)), V.bl (decide (2 = j))])) p2 (.lst [V.bl (decide (3 = j)), V.bl (decide (4 = j)), V.bl (decide (5 = j))])) (a := p3) (o := .lst ([V.bl (decide (0 = j)), V.bl (decide (1 = j)), V.bl (decide (2 = j))] ++ [V.bl (decide (3 = j)), V.bl (decide (4 = j)), V.bl (decide (5 = j))]))
        have hl3' := s4 _ _ hl3
        have hl4 := upd_same (H := upd (upd (upd H p1 (.lst [V.bl (decide (0 = j)), V.bl (decide (1 = j)), V.bl (decide (2 = j))])) p2 (.lst [V.bl (decide (3 = j)), V.bl (decide (4 = j)), V.bl (decide (5 = j))])) p3 (.lst ([V.bl (decide (0 = j)), V.bl (decide (1 = j)), V.bl (decide (2 = j))] ++ [V.bl (decide (3 = j)), V.bl (decide (4 = j)), V.bl (decide (5 = j))]))) (a := p4) (o := .lst [V.str "unreadable", V.str "invalid", V.str "full", V.str "batches", V.str "closed", V.str "none"])
        have sall := ((s1.trans s2).trans s3).trans s4
        have hD2 : (upd (upd (upd (upd H p1 (.lst [V.bl (decide (0 = j)), V.bl (decide (1 = j)), V.bl (decide (2 = j))])) p2 (.lst [V.bl (decide (3 = j)), V.bl (decide (4 = j)), V.bl (decide (5 = j))])) p3 (.lst ([V.bl (decide (0 = j)), V.bl (decide (1 = j)), V.bl (decide (2 = j))] ++ [V.bl (decide (3 = j)), V.bl (decide (4 = j)), V.bl (decide (5 = j))]))) p4 (.lst [V.str "unreadable", V.str "invalid", V.str "full", V.str "batches", V.str "closed", V.str "none"])) D' = none := hD
        show ∃ P : Nat → Hp → Prop, P 0 (upd (upd (upd (upd (upd H p1 (.lst [V.bl (decide (0 = j)), V.bl (decide (1 = j)), V.bl (decide (2 = j))])) p2 (.lst [V.bl (decide (3 = j)), V.bl (decide (4 = j)), V.bl (decide (5 = j))])) p3 (.lst ([V.bl (decide (0 = j)), V.bl (decide (1 = j)), V.bl (decide (2 = j))] ++ [V.bl (decide (3 = j)), V.bl (decide (4 = j)), V.bl (decide (5 = j))]))) p4 (.lst [V.str "unreadable", V.str "invalid", V.str "full", V.str "batches", V.str "closed", V.str "none"])) D' (.lst [])) ∧ _
        generalize upd (upd (upd (upd H p1 (.lst [V.bl (decide (0 = j)), V.bl (decide (1 = j)), V.bl (decide (2 = j))])) p2 (.lst [V.bl (decide (3 = j)), V.bl (decide (4 = j)), V.bl (decide (5 = j))])) p3 (.lst ([V.bl (decide (0 = j)), V.bl (decide (1 = j)), V.bl (decide (2 = j))] ++ [V.bl (decide (3 = j)), V.bl (decide (4 = j)), V.bl (decide (5 = j))]))) p4 (.lst [V.str "unreadable", V.str "invalid", V.str "full", V.str "batches", V.str "closed", V.str "none"]) = H4 at *
        refine ⟨fun i H' => Same H4 H' ∧ H' D' = some (.lst (if j < i then [.str nm] else [])), ⟨same_upd hD2, by rw [upd_same, if_neg (Nat.not_lt_zero j)]⟩, fun i H1 hi ⟨e1, e2⟩ => ?_, fun H1 ⟨e1, e2⟩ => ?_⟩
        · have a1 : atI ([V.bl (decide (0 = j)), V.bl (decide (1 = j)), V.bl (decide (2 = j))] ++ [V.bl (decide (3 = j)), V.bl (decide (4 = j)), V.bl (decide (5 = j))]) (i : Int) = some (.bl (decide (i = j))) := atI_nat (by
            match i, hi with
            | 0, _ => rfl
            | 1, _ => rfl
            | 2, _ => rfl
            | 3, _ => rfl
            | 4, _ => rfl
            | 5, _ => rfl)
          refine ⟨rfl, .ref p3, rfl, .int i, rfl, ⟨p3, _, i, .bl (decide (i = j)), rfl, rfl, SqL.of (e1 _ _ hl3'), a1, ?_⟩⟩
          refine ⟨decide (i = j), rfl, ?_⟩
          show if decide (i = j) = true then _ else _
          by_cases hij : i = j
          · rw [if_pos (decide_eq_true hij)]
            refine ⟨rfl, true, rfl, ?_⟩
            show if true = true then _ else _
            rw [if_pos rfl]
            have a2 : atI [V.str "unreadable", V.str "invalid", V.str "full", V.str "batches", V.str "closed", V.str "none"] (i : Int) = some (.str nm) := atI_nat (by
              rw [← hij] at hnm
              have : ([V.str "unreadable", V.str "invalid", V.str "full", V.str "batches", V.str "closed", V.str "none"] : List V) = kindNames.map V.str := rfl
              rw [this, List.getElem?_map, hnm] <;> rfl)
            refine ⟨.ref p4, rfl, .int i, rfl, ⟨p4, _, i, .str nm, rfl, rfl, SqL.of (e1 _ _ hl4), a2, ?_⟩⟩
            refine ⟨[], by rw [e2, if_neg (by omega)], Nat.lt_of_lt_of_le (Nat.lt_succ_self 0) (hz 1 (by decide)), ?_, ?_⟩
            · intro b o hb
              rw [upd_ne (ne_of_none hb hD2)]
              exact e1 b o hb
            · rw [upd_same, if_pos (by omega)]
              rfl
          · rw [if_neg (by simpa using hij)]
            show if false = true then _ else _
            rw [if_neg Bool.false_ne_true]
            refine ⟨e1, ?_⟩
            rw [e2]
            by_cases hji : j < i
            · rw [if_pos hji, if_pos (by omega)]
            · rw [if_neg hji, if_neg (by omega)]
        · have hj : j < 6 := by
            have := (List.getElem?_eq_some_iff.mp hnm).1
            exact this
          rw [if_pos hj] at e2
          exact hQ D' H1 (sall.trans e1) e2
      · cases hb
    · cases hb
  · cases hc
end
end M
end
section
namespace M
open PySem PySem.Spec PyProof.Rows L2
section
variable {B : Bs} {T : List Addr} {cls : Nat → Addr} {k : Nat} {cd : Prop} {X : Cx} {Wx : WX}
def setF (f : Str) (v : D) : List (Str × D) → List (Str × D)
  | [] => [(f, v)]
  | (g, x) :: r => if g = f then (g, v) :: r else (g, x) :: setF f v r
theorem repP_set {K : PySem.W.Frag} {w : Vw} {f : Str} {d : D} {v : V} (r : Rep K w d v) : ∀ {fs : List (Str × D)} {es : List (Str × V)}, RepP K w fs es → RepP K w (setF f d fs) (putF f v es)
  | [], es, h => by
    have e : es = [] := h
    subst e
    exact ⟨v, [], rfl, r, rfl⟩
  | (g, x) :: fs, es, h => by
    obtain ⟨y, t, rfl, h1, h2⟩ := h
    unfold setF putF
    by_cases e : g = f
    · rw [if_pos e, if_pos e]
      exact ⟨v, t, rfl, r, h2⟩
    · rw [if_neg e, if_neg e]
      exact ⟨y, _, rfl, h1, repP_set r h2⟩
theorem repP_length {κ : Type} {K : PySem.W.Frag} {w : Vw} : ∀ {fs : List (κ × D)} {es : List (κ × V)}, RepP K w fs es → es.length = fs.length
  | [], es, h => by
    have e : es = [] := h
    subst e
    rfl
  | (g, d) :: fs, es, h => by
    obtain ⟨x, r, rfl, h1, h2⟩ := h
    rw [List.length_cons, List.length_cons, repP_length h2]
def FdC (B : Bs) (cls : Nat → Addr) (cs : List Nat) (f : Str) : Prop := ∀ c ∈ cs, Cls B.K (cls c) ∧ NoAttr B.K (cls c) f
def fFld (f : Str) : XF := fun _ _ _ e => match e with
  | .Attribute o g _ => if f = g ∧ isCall o = false ∧ isStar o = false then some [o] else none
  | _ => none
def fldD (cs : List Nat) (f : Str) (d : D) (μ : Sto) : Option D := match insD d μ with
  | some (_, c, fs) => if c ∈ cs then fs.lookup f else none
  | none => none
def eFld (cs : List Nat) (f : Str) : EvE := fun _ ds μ Q _ => match ds with
  | [d] => match fldD cs f d μ with
    | some v => Q v μ
    | none => False
  | _ => False
theorem fldD_eq {cs : List Nat} {f : Str} {d v : D} {μ : Sto} (h : fldD cs f d μ = some v) : ∃ k c fs, d = .obj k ∧ μ.cell k = some (.ins c fs) ∧ c ∈ cs ∧ fs.lookup f = some v := by
  unfold fldD at h
  split at h
  · rename_i j c fs e
    obtain ⟨e1, e2⟩ := insD_eq e
    split at h
    · rename_i hc
      exact ⟨j, c, fs, e1, e2, hc, h⟩
    · cases h
  · cases h
theorem fld_rep {W : Wd} {S : Ss} {cs : List Nat} {f : Str} {d v : D} {x : V} (R : Rl W S) (r : Rep W.K S.vw d x) (h : fldD cs f d S.μ = some v) : ∃ a c dx es u, c ∈ cs ∧ x = .ref a ∧ S.H a = some (.ins (W.cls c) dx es) ∧ es.lookup f = some u ∧ Rep W.K S.vw v u := by
  obtain ⟨j, c, fs, rfl, e2, hc, e4⟩ := fldD_eq h
  obtain ⟨dx, es, e3, r2⟩ := R.ok _ _ e2
  have r3 := repP_lookup (f := f) r2
  rw [e4] at r3
  obtain ⟨u, e5, r5⟩ := r3
  exact ⟨_, c, dx, es, u, hc, r.2, e3, e5, r5⟩
theorem n_fld {cs : List Nat} {f : Str} (h : FdC B cls cs f) : NodOk B T cls k cd (fFld f) (eFld cs f) := by
  intro X top Wx e es as S hf hp
  unfold fFld at hf
  split at hf
  · rename_i o g pos
    split at hf
    · rename_i hc
      obtain ⟨rfl, hno, hst⟩ := hc
      cases hf
      obtain ⟨ci, rfl, _, hi⟩ := hp.one
      have hB := S.bs
      subst hB
      refine PE.weak (pe_fld hi (base_of hno)) fun σ H Q hh => ?_
      obtain ⟨S0, δ, QM, QX, rfl, R, hE, hw, hq, hx⟩ := hh
      simp only [wpE, wpA] at hw
      refine ⟨S0, δ, _, QX, rfl, R, hE, hw, fun S1 d1 v1 l1 R1 r1 w1 => ?_, hx⟩
      dsimp only [eFld] at w1
      split at w1
      · rename_i dv e4
        obtain ⟨a, c, dx, es, u, hc, ex, ei, el, ru⟩ := fld_rep R1 r1 e4
        exact ⟨a, cls c, dx, es, u, ex, ei, (h c hc).1, (h c hc).2, el, hq S1 _ _ l1 R1 ru w1⟩
      · exact w1.elim
    · cases hf
  · cases hf
def fSet (f : Str) : SF := fun _ _ st => match st with
  | .Assign [.Attribute o g _] v _ => if f = g ∧ isStar o = false ∧ isStar v = false then some [v, o] else none
  | _ => none
def setD (cs : List Nat) (f : Str) (d v : D) (μ : Sto) : Option Sto := match insD d μ with
  | some (k, c, fs) => if c ∈ cs ∧ fs.length < 1000 then some (μ.put k (.ins c (setF f v fs))) else none
  | none => none
def eSet (cs : List Nat) (f : Str) : EvS := fun δ ds μ O => match ds with
  | [v, d] => match setD cs f d v μ with
    | some μ' => O.nx δ μ'
    | none => False
  | _ => False
theorem setD_eq {cs : List Nat} {f : Str} {d v : D} {μ μ' : Sto} (h : setD cs f d v μ = some μ') : ∃ k c fs, d = .obj k ∧ μ.cell k = some (.ins c fs) ∧ c ∈ cs ∧ fs.length < 1000 ∧ μ' = μ.put k (.ins c (setF f v fs)) := by
  unfold setD at h
  split at h
  · rename_i j c fs e
    obtain ⟨e1, e2⟩ := insD_eq e
    split at h
    · rename_i hc
      cases h
      exact ⟨j, c, fs, e1, e2, hc.1, hc.2, rfl⟩
    · cases h
  · cases h
theorem set_rep {W : Wd} {S : Ss} {cs : List Nat} {f : Str} {d v : D} {x y : V} {μ' : Sto} (R : Rl W S) (r : Rep W.K S.vw d x) (ry : Rep W.K S.vw v y) (h : setD cs f d v S.μ = some μ') : ∃ a c dx es, c ∈ cs ∧ x = .ref a ∧ S.H a = some (.ins (W.cls c) dx es) ∧ es.length < 1000 ∧
    Ss.le S { S with μ := μ', H := upd S.H a (.ins (W.cls c) dx (putF f y es)) } ∧ Rl W { S with μ := μ', H := upd S.H a (.ins (W.cls c) dx (putF f y es)) } := by
  obtain ⟨j, c, fs, rfl, e2, hc, hl, rfl⟩ := setD_eq h
  obtain ⟨dx, es, e3, r2⟩ := R.ok _ _ e2
  have := R.put (c' := .ins c (setF f v fs)) (o := .ins (W.cls c) dx (putF f y es)) e2 ⟨dx, _, upd_same, repP_set ry r2⟩
  exact ⟨_, c, dx, es, hc, r.2, e3, by rw [repP_length r2]; exact hl, this.1, this.2⟩
theorem n_set {cs : List Nat} {f : Str} (h : FdC B cls cs f) : SnoOk B T cls k cd (fSet f) (eSet cs f) := by
  intro X Wx st es as S hf hp
  unfold fSet at hf
  split at hf
  · rename_i o g p v pos
    split at hf
    · rename_i hc
      obtain ⟨rfl, hs1, hs2⟩ := hc
      cases hf
      obtain ⟨cv, co, rfl, _, hv, _, ho⟩ := hp.two
      have hB := S.bs
      subst hB
      refine PS.weak (ps_fld ho hv (by cases v <;> rfl)) fun E σ H hh => ?_
      obtain ⟨S0, δ, O, rfl, R, hE, hw, C⟩ := hh
      simp only [wpS, wpA] at hw
      refine ⟨S0, δ, _, _, rfl, R, hE, hw, fun S1 d1 v1 l1 R1 r1 w1 => ?_, C.afx hE⟩
      refine ⟨S1, δ, _, _, rfl, R1, hE.mono l1.1, w1, fun S2 d2 v2 l2 R2 r2 w2 => ?_, (C.le l1).afx (hE.mono l1.1)⟩
      dsimp only [eSet] at w2
      split at w2
      · rename_i μ' e4
        obtain ⟨a, c, dx, es, hc, ex, ei, hl, l3, R3⟩ := set_rep R2 r2 (r1.mono l2.1) e4
        exact ⟨a, cls c, dx, es, ex, ei, (h c hc).1, (h c hc).2, hl, C.nx _ δ σ ((l1.trans l2).trans l3) R3 ((hE.mono (l1.trans l2).1).mono l3.1) w2⟩
      · exact w2.elim
    · cases hf
  · cases hf
end
end M
end
section
namespace M
open PySem PySem.Spec PyProof.Rows L2
section
variable {B : Bs} {T : List Addr} {cls : Nat → Addr} {k : Nat} {cd : Prop} {X : Cx} {Wx : WX}
theorem no_pass : Passes (L2N.CX X.prog X.w) X (fun _ _ _ => False) := by
  intro pins σ H s e s' I h
  obtain ⟨_, _, _, _, _, _, _, _, _, _, _, _, hE⟩ := h
  exact hE.elim
def NwC (B : Bs) (T : List Addr) (cls : Nat → Addr) (k : Nat) (x : Str) (c : Nat) (sp : Spec) : Prop :=
  ∃ (j : Nat) (f : Addr) (fd : FuncData) (ps : List Str) (sp' : Spec) (dd : List D) (dvs : List V) (dus : List Value), j + 1 ≤ k ∧ B.mg x = some (.ref (cls c)) ∧ (x == ("__debug__" : Str)) = false ∧ Mk B.K (cls c) f ∧
    FnOk B.P B.w B.K B.mg B.base (L2N.CX B.P B.w) j f fd ps (lift ⟨B.K, T, cls⟩ sp') ∧ Binds B.K fd ps dus ∧ Vals dvs dus ∧ (∀ w, Reps B.K w dd dvs) ∧ ∀ ds μ Q E, sp ds μ Q E → sp' (ds ++ dd) μ Q E
def fNew (x : Str) : XF := fun _ sc _ e => match e with
  | .Call (.Name y _) es [] _ => if x = y ∧ glB sc y = true ∧ (es.all fun e => !isStar e) = true then some es else none
  | _ => none
def eNew (c : Nat) (sp : Spec) : EvE := fun _ ds μ Q _ => sp (.obj μ.next :: ds) (μ.new (.ins c [])) (fun v μ' => v = .non ∧ Q (.obj μ.next) μ') (fun _ _ => False)
theorem new_read {c : Nat} {sp : Spec} {S : Ss} {ds : List D} {vs : List V} {QM : Post} {Q : VK} {x dx : Addr} (R : Rl (wd X T cls) S) (rr : Reps X.K S.vw ds vs) (hw : sp (.obj S.μ.next :: ds) (S.μ.new (.ins c [])) (fun v μ' => v = .non ∧ QM (.obj S.μ.next) μ') (fun _ _ => False)) (hq : After (wd X T cls) S QM Q)
    (nx : S.H x = none) (nd : S.H dx = none) (ne : dx ≠ x) : lift (wd X T cls) sp (.ref x :: vs) (upd (upd S.H dx (.own x)) x (.ins (cls c) dx [])) (fun v H2 => v = .non ∧ Q (.ref x) H2) fun _ _ _ => False := by
  have old : ∀ a o, S.H a = some o → a ≠ x ∧ a ≠ dx := fun a o e => ⟨ne_of_none e nx, ne_of_none e nd⟩
  have keep : ∀ a o, S.H a = some o → upd (upd S.H dx (.own x)) x (.ins (cls c) dx []) a = some o := fun a o e => by
    rw [upd_ne (old a o e).1, upd_ne (old a o e).2]
    exact e
  obtain ⟨l, R2⟩ := R.new (c := .ins c []) (H' := upd (upd S.H dx (.own x)) x (.ins (cls c) dx [])) nx (fun a _ h => by
    cases e : S.H a with
    | none => exact absurd e h
    | some o => exact keep a o e) (fun a o e => keep a o (hid_ex e)) ⟨dx, [], upd_same, rfl⟩
  refine ⟨_, .obj S.μ.next :: ds, _, _, rfl, R2, ⟨.ref x, vs, rfl, ⟨Nat.lt_succ_self _, by show V.ref x = V.ref (newρ S.ρ S.μ.next x S.μ.next); rw [newρ_same]⟩, rr.mono l.1⟩, hw, ?_, afx_no⟩
  rintro S3 d v l3 R3 r3 ⟨e, q⟩
  subst e
  refine ⟨r3, hq S3 (.obj S.μ.next) _ (l.trans l3) R3 ⟨Nat.lt_of_lt_of_le (Nat.lt_succ_self _) l3.1.2.2, ?_⟩ q⟩
  have : S3.ρ S.μ.next = newρ S.ρ S.μ.next x S.μ.next := l3.1.2.1 _ (Nat.lt_succ_self _)
  show V.ref x = V.ref (S3.ρ S.μ.next)
  rw [this, newρ_same]
theorem n_new {x : Str} {c : Nat} {sp : Spec} (h : NwC B T cls k x c sp) : NodOk B T cls k cd (fNew x) (eNew c sp) := by
  intro X top Wx e es as S hf hp
  unfold fNew at hf
  split at hf
  · rename_i y p es' pos
    split at hf
    · rename_i hc
      obtain ⟨rfl, hg, hst⟩ := hc
      cases hf
      have hB := S.bs
      subst hB
      obtain ⟨j, f, fd, ps, sp', dd, dvs, dus, hj, hm, hdb, M, F, hb, hdv, hrd, imp⟩ := h
      have hr : Room (j + 1) X.A := S.g.room.mono hj
      refine ⟨fun pins s σ H Q I hh => ?_⟩
      have fin : ∀ {S1 : Ss} {ds : List D} {vs : List V} {QM : Post} {Q : VK}, Rl (wd X T cls) S1 → Reps X.K S1.vw ds vs → eNew c sp [] ds S1.μ QM (fun _ _ => False) → After (wd X T cls) S1 QM Q →
          ∀ x dx, S1.H x = none → S1.H dx = none → dx ≠ x → lift ⟨X.K, T, cls⟩ sp' (.ref x :: (vs ++ dvs)) (upd (upd S1.H dx (.own x)) x (.ins (cls c) dx [])) (fun v H2 => v = .non ∧ Q (.ref x) H2) fun _ _ _ => False :=
        fun {S1 ds vs QM Q} R1 r1 w1 hq x dx nx nd ne => new_read (sp := sp') (QM := QM) R1 (r1.append (hrd _)) (imp _ _ _ _ w1) hq nx nd ne
      refine wpAny_Call_Name_kw (ld_glob I (gl_of hg) hm ?_ hdb)
      obtain ⟨S0, δ, QM, QX, rfl, R, hE, hw, hq, hx⟩ := hh
      simp only [wpE] at hw
      cases es with
      | nil =>
        have e := hp.none
        subst e
        simp only [wpA] at hw
        exact PySem.W.callWith_K0 I.kIn M.kp (run_make (us := []) (vs := []) M F hr hb hdv no_pass I .nil (fin R (ds := []) rfl hw hq))
      | cons e es =>
        have ha := pa_of _ hp
        have hda : DA (wd X T cls) Wx as σ S0.H fun vs H1 => ∀ x dx, H1 x = none → H1 dx = none → dx ≠ x → lift ⟨X.K, T, cls⟩ sp' (.ref x :: (vs ++ dvs)) (upd (upd H1 dx (.own x)) x (.ins (cls c) dx [])) (fun v H2 => v = .non ∧ Q (.ref x) H2) fun _ _ _ => False :=
          ⟨S0, δ, _, QX, rfl, R, hE, hw, fun S1 ds vs l1 R1 r1 w1 => fin R1 r1 w1 (hq.le l1), hx⟩
        rw [List.all_cons, Bool.and_eq_true, Bool.not_eq_true'] at hst
        refine PySem.W.callWith_K (h₀ := X.base) I.ok.mod.kin M.kp (thn (ha.run pos pins s σ S0.H _ I hda) fun us s1 ⟨vs, H1, I1, r, q⟩ => ⟨I1.kIn, ?_⟩) (star_of hst.1) (back_of hst.2)
        exact run_make M F hr hb hdv no_pass I1 r q
    · cases hf
  · cases hf
theorem new_dct {S : Ss} {QM : Post} {Q : VK} {kvs : List (Key × D)} {es : List (Key × V)} (R : Rl (wd X T cls) S) (r : RepP X.K S.vw kvs es) (hb : QM (.obj S.μ.next) (S.μ.new (.dct kvs))) (hq : After (wd X T cls) S QM Q) : ∀ p, S.H p = none → Q (.ref p) (upd S.H p (.dK es)) := fun p hp => by
  obtain ⟨l, R2⟩ := R.new (c := .dct kvs) (H' := upd S.H p (.dK es)) hp (fun a ha _ => upd_ne ha) (fun a o e => (upd_ne (ne_of_none (hid_ex e) hp)).trans (hid_ex e)) ⟨es, upd_same, RepP.mono (w := S.vw) (w' := ⟨hid S, newρ S.ρ S.μ.next p, S.μ.next + 1⟩) ⟨Ext.refl _, fun k hk => newρ_ne (Nat.ne_of_lt hk), Nat.le_succ _⟩ r⟩
  exact hq _ (.obj S.μ.next) (.ref p) l R2 ⟨Nat.lt_succ_self _, by show V.ref p = V.ref (newρ S.ρ S.μ.next p S.μ.next); rw [newρ_same]⟩ hb
def fDnil : XF := fun _ _ _ e => match e with
  | .Dict [] [] _ => some []
  | _ => none
def eDnil : EvE := fun _ _ μ Q _ => Q (.obj μ.next) (μ.new (.dct []))
theorem n_dnil : NodOk B T cls k cd fDnil eDnil := by
  intro X top Wx e es as S hf hp
  unfold fDnil at hf
  split at hf
  · cases hf
    have e := hp.none
    subst e
    refine PE.weak pe_dnewK fun σ H Q hh => ?_
    obtain ⟨S0, δ, QM, QX, rfl, R, hE, hw, hq, hx⟩ := hh
    simp only [wpE, wpA] at hw
    exact new_dct R (kvs := []) (es := []) rfl hw hq
  · cases hf
def ePar (i j : Nat) : EvS := fun δ ds μ O => match ds with
  | [a, b] => O.nx ((δ.set i (some a)).set j (some b)) μ
  | _ => False
end
end M
end
section
namespace M
open PySem PySem.Spec PyProof.Rows L2
def PrC (B : Bs) (T : List Addr) (cls : Nat → Addr) (j c : Nat) (f : Str) (sp : Spec) : Prop :=
  Cls B.K (cls c) ∧ ∃ (p g : Addr) (fd : FuncData), PropOf B.K (cls c) f p g ∧ FnOk B.P B.w B.K B.mg B.base (L2N.CX B.P B.w) j g fd ["self"] (lift ⟨B.K, T, cls⟩ sp) ∧ Binds B.K fd ["self"] []
def fPrp (f : Str) : XF := fun _ _ _ e => match e with
  | .Attribute o g _ => if g = f ∧ isCall o = false ∧ isStar o = false then some [o] else none
  | _ => none
def ePrp (f : Str) (tbl : List (Nat × Spec)) : EvE := fun _ ds μ Q _ => match ds with
  | [d] => match metOf f tbl d μ with
    | some sp => sp [d] μ Q (fun _ _ => False)
    | none => False
  | _ => False
section
variable {B : Bs} {T : List Addr} {cls : Nat → Addr} {k : Nat} {cd : Prop}
theorem n_prp {f : Str} {tbl : List (Nat × Spec)} {j : Nat} (hj : j + 1 ≤ k) (h : ∀ c sp, tbl.lookup c = some sp → PrC B T cls j c f sp) : NodOk B T cls k cd (fPrp f) (ePrp f tbl) := by
  intro X top Wx e es as S hf hp
  unfold fPrp at hf
  split at hf
  · rename_i o g pos
    split at hf
    · rename_i hc
      obtain ⟨rfl, hno, hst⟩ := hc
      cases hf
      obtain ⟨ci, rfl, _, hi⟩ := hp.one
      have hB := S.bs
      subst hB
      refine ⟨fun pins s σ H Q I hh => ?_⟩
      obtain ⟨S0, δ, QM, QX, rfl, R, hE, hw, hq, hx⟩ := hh
      simp only [wpE, wpA] at hw
      have hd : DE (wd X T cls) Wx ci σ S0.H fun x H1 => ∃ (S1 : Ss) (i c : Nat) (fs : List (Str × D)) (sp : Spec), H1 = S1.H ∧ x = .ref (S1.ρ i) ∧ S0.le S1 ∧ Rl (wd X T cls) S1 ∧ Rep X.K S1.vw (.obj i) x ∧ S1.μ.cell i = some (.ins c fs) ∧ tbl.lookup c = some sp ∧ sp [.obj i] S1.μ QM (fun _ _ => False) := by
        refine ⟨S0, δ, _, QX, rfl, R, hE, hw, fun S1 d1 v1 l1 R1 r1 w1 => ?_, hx⟩
        dsimp only [ePrp] at w1
        split at w1
        · rename_i sp e
          obtain ⟨i, c, fs, rfl, e2, _, e4⟩ := metOf_eq e
          exact ⟨S1, i, c, fs, sp, rfl, r1.2, l1, R1, r1, e2, e4, w1⟩
        · exact w1.elim
      refine attr_of (base_of hno) (thn (hi.run pins s σ S0.H _ I hd) fun u s1 ⟨x, H1, I1, rx, S1, i, c, fs, sp, e1, ex, l1, R1, r1, e2, e4, w1⟩ => ?_)
      subst e1 ex
      obtain rfl : u = Value.ref (S1.ρ i) := rx
      obtain ⟨hcl, p, gg, fd, hp, F, hb⟩ := h c sp e4
      obtain ⟨dx, es2, ei, _⟩ := R1.ok _ _ e2
      exact getprop_ok (CX := L2N.CX X.prog X.w) (E := fun _ _ _ => False) I1 ei hcl hp F (S.g.room.mono hj) hb .nil no_pass ⟨S1, [.obj i], QM, fun _ _ => False, rfl, R1, Reps.one r1, w1, hq.le l1, afx_no⟩
    · cases hf
  · cases hf
end
end M
end
section
namespace M
open PySem PySem.Spec PyProof.Rows L2
theorem lookup_keep {K : PySem.W.Frag} {f : Addr → Bool} {a : Addr} : (K.filter fun e => f e.1).lookup a = if f a = true then K.lookup a else none := by
  induction K with
  | nil => split <;> rfl
  | cons e K ih =>
    obtain ⟨b, o⟩ := e
    rw [List.filter_cons]
    by_cases hb : f b = true
    · rw [if_pos hb, List.lookup_cons, List.lookup_cons, ih]
      by_cases hab : (a == b) = true
      · rw [hab]
        have : a = b := eq_of_beq hab
        subst this
        simp [hb]
      · rw [Bool.not_eq_true] at hab
        rw [hab]
    · rw [if_neg hb, ih, List.lookup_cons]
      by_cases hab : (a == b) = true
      · have : a = b := eq_of_beq hab
        subst this
        rw [if_neg hb, if_neg hb]
      · rw [Bool.not_eq_true] at hab
        rw [hab]
def codeTab (K : PySem.W.Frag) (x : Str) : Option (Addr × Addr) := match K.lookup (He.ga K x) with
  | some ⟨_, _, .func fd, _⟩ => (match fd.code with
    | .ref c => (match K.lookup c with
      | some ⟨_, _, .fields vs, _⟩ => (match vs.getD 11 .none with
        | .ref P => some (c, P)
        | _ => none)
      | _ => none)
    | _ => none)
  | _ => none
def tabsOf (K : PySem.W.Frag) (xs : List Str) : List (Addr × Addr) := xs.filterMap (codeTab K)
def noTabs (K : PySem.W.Frag) (ts : List (Addr × Addr)) : PySem.W.Frag := K.filter fun e => !(ts.any fun t => t.2 == e.1)
theorem noTabs_in {K : PySem.W.Frag} {ts : List (Addr × Addr)} {h : Heap} (X : K.In h) : (noTabs K ts).In h := fun a o e => by
  unfold noTabs at e
  rw [lookup_keep (f := fun b => !(ts.any fun t => t.2 == b))] at e
  split at e
  · exact X a o e
  · cases e
theorem noTabs_none {K : PySem.W.Frag} {ts : List (Addr × Addr)} {p : Addr × Addr} (h : p ∈ ts) : (noTabs K ts).lookup p.2 = none := by
  unfold noTabs
  rw [lookup_keep (f := fun b => !(ts.any fun t => t.2 == b)), if_neg]
  rw [Bool.not_eq_true, Bool.not_eq_false', List.any_eq_true]
  exact ⟨p, h, beq_self_eq_true _⟩
def emptyTab : Option Obj → Bool
  | some ⟨.none, none, .fields vs, sl⟩ => vs.isEmpty && sl.isEmpty
  | _ => false
theorem emptyTab_ok {o : Option Obj} (h : emptyTab o = true) : o = some { cls := .none, data := .fields #[] } := by
  unfold emptyTab at h
  split at h
  · rename_i vs sl
    rw [Bool.and_eq_true] at h
    rw [Array.isEmpty_iff.mp h.1, Array.isEmpty_iff.mp h.2]
  · cases h
def linkB (K : PySem.W.Frag) (x : Str) (c : Addr) : Bool := match K.lookup (He.ga K x) with
  | some ⟨_, _, .func fd, _⟩ => (match fd.code with
    | .ref d => d == c
    | _ => false)
  | _ => false
theorem linkB_ok {K : PySem.W.Frag} {x : Str} {c : Addr} (h : linkB K x c = true) {oc : Value} {od : Option Addr} {fd : FuncData} {sl : Array (Option Value)} (l : K.lookup (He.ga K x) = some ⟨oc, od, .func fd, sl⟩) : fd.code = .ref c := by
  unfold linkB at h
  rw [l] at h
  dsimp only at h
  split at h
  · rename_i d e
    rw [e, eq_of_beq h]
  · cases h
def codesB (g : Addr → Option Obj) (K0 K : PySem.W.Frag) (xs : List Str) : Bool := xs.all fun x => match codeTab K0 x with
  | some p => PySem.W.codeHdIn K0 p.1 p.2 && (emptyTab (g p.2) && linkB K x p.1)
  | none => false
def intsB : List Key → List Value → Bool
  | [], [] => true
  | .inl i :: is, .int j _ :: vs => decide (i = j) && intsB is vs
  | .inr i :: is, .str j _ :: vs => decide (i = j) && intsB is vs
  | _, _ => false
def tupIs (K : PySem.W.Frag) (v : Value) (is : List Key) : Bool := match v with
  | .ref t => (match K.lookup t with
    | some ⟨.type c, _, .seq its _, _⟩ => decide (c = "tuple") && (Nat.ble its.size 1000 && intsB is its.toList)
    | _ => false)
  | _ => false
def entsB (K : PySem.W.Frag) : List DictEntry → List (Str × List Key) → Bool
  | [], [] => true
  | e :: es, q :: qs => (match e.key with
    | .str k _ => decide (k = q.1)
    | _ => false) && (tupIs K e.val q.2 && entsB K es qs)
  | _, _ => false
def dictB (K : PySem.W.Frag) (g : Str) (qs : List (Str × List Key)) : Bool := match K.lookup (He.ga K g) with
  | some ⟨_, _, .dict es _, _⟩ => entsB K es.toList qs
  | _ => false
def strsB : List Str → List Value → Bool
  | [], [] => true
  | i :: is, .str j _ :: vs => decide (i = j) && strsB is vs
  | _, _ => false
theorem strsB_ok : ∀ {is : List Str} {vs : List Value}, strsB is vs = true → Vals (is.map V.str) vs
  | [], [], _ => .nil
  | [], v :: vs, h => by cases v <;> cases (show false = true from h)
  | i :: is, [], h => by cases (show false = true from h)
  | i :: is, v :: vs, h => by
    cases v with
    | str j t =>
      have h : (decide (i = j) && strsB is vs) = true := h
      rw [Bool.and_eq_true, decide_eq_true_eq] at h
      rw [h.1]
      exact .cons ⟨t, rfl⟩ (strsB_ok h.2)
    | _ => cases (show false = true from h)
def tupSB (K : PySem.W.Frag) (g : Str) (ws : List Str) : Bool := match K.lookup (He.ga K g) with
  | some ⟨.type c, none, .seq its _, _⟩ => decide (c = "tuple") && (Nat.ble its.size 1000 && strsB ws its.toList)
  | _ => false
theorem tupSB_ok {B : Bs} {g : Str} {ws : List Str} (hg : B.mg g = some (.ref (He.ga B.K g))) (h : tupSB B.K g ws = true) : GtC B g ws := by
  unfold tupSB at h
  split at h
  · rename_i c its n sl l
    rw [Bool.and_eq_true, Bool.and_eq_true, decide_eq_true_eq] at h
    obtain ⟨rfl, h1, h2⟩ := h
    refine ⟨He.ga B.K g, _, its, n, hg, l, rfl, rfl, rfl, ?_, strsB_ok h2⟩
    have := Nat.le_of_ble_eq_true h1
    rw [sizeLine_eq]
    omega
  · cases h
structure SupD where
  at_ : Str × Option Str
  bas : Str
  name : Str
  qual : Str
  params : Arguments
  body : List Stmt
  scope : Scope
  file : Str
abbrev SupV : Type := Option (Str × Str × Arguments × PySem.FuncBody × Scope × Addr × List Str × Addr)
def supW (K : PySem.W.Frag) (p : Str × Option Str) : SupV := match K.lookup (He.fAd K p) with
  | some ⟨_, _, .func fd, _⟩ => some (fd.name, fd.qualname, fd.params, fd.body, fd.scope, fd.globals, fd.closure.map (·.1), fd.builtins)
  | _ => none
def SupD.val (d : SupD) : SupV := some (d.name, d.qual, d.params, PySem.FuncBody.stmts d.body, d.scope, mainGlobals, ["__class__"], builtinsNs)
def ccB (K : PySem.W.Frag) (C : Addr) : List (Str × Addr) → Bool
  | [(_, cc)] => (match K.lookup cc with
    | some ⟨_, _, .cell (some (.ref D)), _⟩ => decide (D = C)
    | _ => false)
  | _ => false
def fileB (K : PySem.W.Frag) (fl : Str) : Value → Bool
  | .ref c => (match K.lookup c with
    | some ⟨_, _, .fields vs, _⟩ => (match vs[2]? with
      | some (Value.str z _) => decide (fl = z)
      | _ => false)
    | _ => false)
  | _ => false
def noneV : Value → Bool
  | .none => true
  | _ => false
theorem noneV_ok : ∀ {v : Value}, noneV v = true → v = .none := fun {v} h => by
  cases v with
  | none => rfl
  | _ => cases h
def SupD.ok (K : PySem.W.Frag) (d : SupD) : Bool := PySem.W.keepIn K (.ref (He.fAd K d.at_)) && ((match K.lookup (He.fAd K d.at_) with
  | some ⟨_, _, .func fd, _⟩ => PySem.W.codeIn K fd.code d.qual && (ccB K (He.ga K d.at_.1) fd.closure && (fileB K d.file fd.code && noneV fd.defaults))
  | _ => false) && ((PySem.W.clsIn K (He.ga K d.at_.1)).isSome && (decide (PySem.W.mroIn K (He.ga K d.at_.1) (.ref (He.ga K d.at_.1)) = some true) && (He.eqO (PySem.W.ks_superIn K (He.ga K d.at_.1) (He.ga K d.at_.1) "__init__") (some (some (.ref (He.ma K (He.ga K d.bas) "__init__")))) &&
    (decide (PySem.W.typeIn K (.ref (He.ma K (He.ga K d.bas) "__init__")) = some (.type "function")) && (PySem.W.fnIn K (He.ma K (He.ga K d.bas) "__init__") && He.eqO (PySem.W.nsIn K cStatics "thirdparty.any") (some none)))))))
structure FunS (K : PySem.W.Frag) (d : SupD) (fd : FuncData) : Prop where
  ex : ∃ (oc : Value) (od : Option Addr) (kV doc pm ct : Value) (an : Option Addr) (cda cc : Addr) (osl : Array (Option Value)), fd = PySem.W.ksFn d.name d.qual d.params d.body d.scope .none kV doc pm an (.ref cda) ct cc ∧ K.lookup (He.fAd K d.at_) = some ⟨oc, od, .func fd, osl⟩ ∧ PySem.W.codeIn K (.ref cda) d.qual = true ∧
    ∀ (P : Program) (mg : Str → Option Value), mg "super" = none → (P.main.scope.names.lookup ("super" : Str)).isSome = false → P.main.file = d.file → SupK K P mg (He.ga K d.at_.1) (He.ga K d.at_.1) cc cda (He.ma K (He.ga K d.bas) "__init__")
  kp : PySem.W.keepIn K (.ref (He.fAd K d.at_)) = true
theorem SupD.funS {K : PySem.W.Frag} {d : SupD} (e : supW K d.at_ = d.val) (c : d.ok K = true) : ∃ fd, FunS K d fd := by
  unfold SupD.ok at c
  simp only [Bool.and_eq_true] at c
  obtain ⟨kp, c2, c3, c4, c5, c6, c7, c8⟩ := c
  unfold supW at e
  cases q : K.lookup (He.fAd K d.at_) with
  | none =>
    rw [q] at c2
    cases c2
  | some o =>
    obtain ⟨oc, od, dt, osl⟩ := o
    rw [q] at c2 e
    cases dt with
    | func fd =>
      obtain ⟨n1, n2, n3, n4, n5, n6, n7, n8, n9, n10, n11, n12, n13, n14, n15⟩ := fd
      have e2 : (some (n1, n2, n3, n4, n5, n6, n7.map (·.1), n15) : SupV) = some (d.name, d.qual, d.params, PySem.FuncBody.stmts d.body, d.scope, mainGlobals, [("__class__" : Str)], builtinsNs) := e
      simp only [Option.some.injEq, Prod.mk.injEq] at e2
      obtain ⟨h1, h2, h3, h4, h5, h6, h7, h8⟩ := e2
      subst h1 h2 h3 h4 h5 h6 h8
      simp only [Bool.and_eq_true] at c2
      obtain ⟨k1, k2, k3, k4⟩ := c2
      obtain rfl : n8 = .none := noneV_ok k4
      unfold ccB at k2
      split at k2
      · rename_i x cc
        have hx : x = "__class__" := by
          rw [List.map_cons, List.map_nil] at h7
          exact (List.cons.inj h7).1
        subst hx
        split at k2
        · rename_i cl cld D csl hcc
          have hD : D = _ := of_decide_eq_true k2
          subst hD
          unfold fileB at k3
          split at k3
          · rename_i cda
            split at k3
            · rename_i ccl cdd vs ccs hcode
              split at k3
              · rename_i z tf hz
                have hf : d.file = z := of_decide_eq_true k3
                refine ⟨_, ⟨oc, od, n9, n10, n11, n14, n12, cda, cc, osl, rfl, q, k1, fun P mg m1 m2 m3 => ⟨⟨cl, cld, csl, hcc⟩, Option.isSome_iff_exists.mp c3, Option.isSome_iff_exists.mp c3, of_decide_eq_true c4, He.eqO_ok c5, of_decide_eq_true c6, c7, He.eqO_ok c8, m1, m2,
                  ⟨ccl, cdd, vs, ccs, z, tf, hcode, hz, by
                    rw [m3, hf]
                    exact beq_self_eq_true _⟩⟩⟩, kp⟩
              · cases k3
            · cases k3
          · cases k3
        · cases k2
      · cases k2
    | _ => cases c2
theorem FunS.binds {K : PySem.W.Frag} {d : SupD} {fd : FuncData} {ps : List Str} (F : FunS K d fd)
    (h : ∀ (kV doc pm ct : Value) (an : Option Addr) (cda cc : Addr) (us : List Value), us.length = ps.length → bindArgs (PySem.W.ksFn d.name d.qual d.params d.body d.scope .none kV doc pm an (.ref cda) ct cc) ⟨us, []⟩ = pure (ps.zip us)) : Binds K fd ps [] := by
  obtain ⟨oc, od, kV, doc, pm, ct, an, cda, cc, osl, rfl, lk, hcd, _⟩ := F.ex
  exact .all (h kV doc pm ct an cda cc)
structure PrpD where
  cls : Str
  f : Str
  qual : Str
  st : Stmt
def PrpD.pa (K : PySem.W.Frag) (d : PrpD) : Addr := He.ma K (He.ga K d.cls) d.f
def PrpD.gad (K : PySem.W.Frag) (d : PrpD) : Addr := match PySem.W.recIn K (d.pa K) "property" with
  | some (.ref g :: _) => g
  | _ => 0
def fnAt (K : PySem.W.Frag) (a : Addr) : SupV := match K.lookup a with
  | some ⟨_, _, .func fd, _⟩ => some (fd.name, fd.qualname, fd.params, fd.body, fd.scope, fd.globals, fd.closure.map (·.1), fd.builtins)
  | _ => none
def PrpD.val (d : PrpD) : SupV := some (d.f, d.qual, defArgs d.st, PySem.FuncBody.stmts (defBody d.st), defScope d.st, mainGlobals, [], builtinsNs)
def PrpD.ok (K : PySem.W.Frag) (d : PrpD) : Bool := PySem.W.keepIn K (.ref (d.gad K)) && (He.eqO (PySem.W.findIn K (.ref (He.ga K d.cls)) d.f) (some (some (.ref (d.pa K)))) && (He.eqO (PySem.W.specialIn K (.ref (d.pa K)) "__get__") (some (some (.builtin "property.__get__"))) && (decide (PySem.W.takesIn K (.ref (d.pa K)) = some true) &&
  ((match PySem.W.recIn K (d.pa K) "property" with
  | some (.ref g :: _) => true
  | _ => false) && (match K.lookup (d.gad K) with
  | some ⟨_, _, .func fd, _⟩ => PySem.W.codeIn K fd.code d.qual && noneV fd.defaults
  | _ => false)))))
structure PrpK (K : PySem.W.Frag) (d : PrpD) (fd : FuncData) : Prop where
  pr : PropOf K (He.ga K d.cls) d.f (d.pa K) (d.gad K)
  fn : Fun K d.f d.qual d.st (d.gad K) fd
theorem PrpD.prpK {K : PySem.W.Frag} {d : PrpD} (e : fnAt K (d.gad K) = d.val) (c : d.ok K = true) : ∃ fd, PrpK K d fd := by
  unfold PrpD.ok at c
  simp only [Bool.and_eq_true, decide_eq_true_eq] at c
  obtain ⟨kp, c2, c3, c4, c5, c6⟩ := c
  have hp : PropOf K (He.ga K d.cls) d.f (d.pa K) (d.gad K) := by
    refine ⟨He.eqO_ok c2, He.eqO_ok c3, c4, ?_⟩
    split at c5
    · rename_i g rest hr
      refine ⟨rest, ?_⟩
      have : d.gad K = g := by
        unfold PrpD.gad
        rw [hr]
      rw [this]
      exact hr
    · cases c5
  unfold fnAt at e
  cases q : K.lookup (d.gad K) with
  | none =>
    rw [q] at c6
    cases c6
  | some o =>
    obtain ⟨oc, od, dt, osl⟩ := o
    rw [q] at c6 e
    cases dt with
    | func fd =>
      obtain ⟨n1, n2, n3, n4, n5, n6, n7, n8, n9, n10, n11, n12, n13, n14, n15⟩ := fd
      have e2 : (some (n1, n2, n3, n4, n5, n6, n7.map (·.1), n15) : SupV) = some (d.f, d.qual, defArgs d.st, PySem.FuncBody.stmts (defBody d.st), defScope d.st, mainGlobals, [], builtinsNs) := e
      simp only [Option.some.injEq, Prod.mk.injEq] at e2
      obtain ⟨h1, h2, h3, h4, h5, h6, h7, h8⟩ := e2
      have h7 := List.map_eq_nil_iff.mp h7
      have c7 : (PySem.W.codeIn K n13 d.qual && noneV n8) = true := c6
      rw [Bool.and_eq_true] at c7
      have h9 : n8 = .none := by
        have := c7.2
        cases n8 <;> first | rfl | cases this
      subst h1 h2 h3 h4 h5 h6 h7 h8 h9
      exact ⟨_, hp, ⟨⟨oc, od, n9, n10, n11, n12, n13, n14, osl, rfl, q, c7.1⟩, kp⟩⟩
    | _ => cases c6
def excB (K : PySem.W.Frag) (D : Addr) : Bool := He.eqO (PySem.W.findIn K (.ref D) "__getattribute__") (some (some (.builtin "BaseException.__getattribute__"))) && (He.eqO (PySem.W.findIn K (.ref D) "__getattr__") (some none) && (decide (PySem.W.subIn K (.ref D) (.type "BaseException") = some true) && (PySem.W.hasDictIn K D &&
  (He.eqO (PySem.W.findIn K (.ref D) "__class__") (some (some (.builtin "object.__class__"))) && (He.eqO (PySem.W.specialIn K (.builtin "object.__class__") "__get__") (some (some (.builtin "getset_descriptor.__get__"))) && (decide (PySem.W.takesIn K (.builtin "object.__class__") = some true) && decide (PySem.W.mroIn K D (.type "object") = some true)))))))
theorem excB_ok {K : PySem.W.Frag} {D : Addr} (h : excB K D = true) : ExcC K D := by
  unfold excB at h
  simp only [Bool.and_eq_true, decide_eq_true_eq] at h
  obtain ⟨h1, h2, h3, h4, h5, h6, h7, h8⟩ := h
  exact ⟨He.eqO_ok h1, He.eqO_ok h2, h3, h4, He.eqO_ok h5, He.eqO_ok h6, h7, h8⟩
def kindOne (K : PySem.W.Frag) (j : Nat) (x : Str) : Bool := excB K (He.ga K x) && (decide (PySem.W.kitOne K (.ref (He.ga K x)) (.ref (He.ga K "EndError")) = some true) && (decide (PySem.W.kitOne K (.ref (He.ga K x)) (.type "ValueError") = some true) && (decide (PySem.W.exmOne K (.ref (He.ga K x)) (.ref (He.ga K "EndError")) = some true) &&
  (List.range 6).all fun i => decide (PySem.W.kitOne K (.ref (He.ga K x)) (.ref (He.ga K (kindCls.getD i "")))= some (decide (i = j))) && decide (PySem.W.exmOne K (.ref (He.ga K x)) (.ref (He.ga K (kindCls.getD i ""))) = some (decide (i = j))))))
def kindAll (K : PySem.W.Frag) : Bool := (List.range 6).all fun j => kindOne K j (kindCls.getD j "")
theorem kindAll_ok {K : PySem.W.Frag} {mg : Str → Option Value} (h : kindAll K = true) (h0 : mg "EndError" = some (.ref (He.ga K "EndError"))) (hg : ∀ x ∈ kindCls, mg x = some (.ref (He.ga K x))) : ∀ j x, kindCls[j]? = some x → KindK K mg (He.ga K x) j ∧ PySem.W.kitOne K (.ref (He.ga K x)) (.type "ValueError") = some true ∧ PySem.W.exmOne K (.ref (He.ga K x)) (.ref (He.ga K "EndError")) = some true ∧
    ∀ i y, kindCls[i]? = some y → PySem.W.exmOne K (.ref (He.ga K x)) (.ref (He.ga K y)) = some (decide (i = j)) := by
  intro j x hx
  have hj : j < 6 := (List.getElem?_eq_some_iff.mp hx).1
  have h1 := List.all_eq_true.mp h j (List.mem_range.mpr hj)
  have ex : kindCls.getD j "" = x := by rw [List.getD_eq_getElem?_getD, hx] <;> rfl
  rw [ex] at h1
  unfold kindOne at h1
  simp only [Bool.and_eq_true, decide_eq_true_eq] at h1
  obtain ⟨a1, a2, a3, a4, a5⟩ := h1
  have six : ∀ i y, kindCls[i]? = some y → PySem.W.kitOne K (.ref (He.ga K x)) (.ref (He.ga K y)) = some (decide (i = j)) ∧ PySem.W.exmOne K (.ref (He.ga K x)) (.ref (He.ga K y)) = some (decide (i = j)) := fun i y hy => by
    have := List.all_eq_true.mp a5 i (List.mem_range.mpr (List.getElem?_eq_some_iff.mp hy).1)
    rw [List.getD_eq_getElem?_getD, hy, Bool.and_eq_true, decide_eq_true_eq, decide_eq_true_eq] at this
    exact this
  exact ⟨⟨excB_ok a1, ⟨_, h0, a2⟩, fun i y hy => ⟨_, hg y (List.mem_of_getElem? hy), (six i y hy).1⟩⟩, a3, a4, fun i y hy => (six i y hy).2⟩
def seenU (v a : Nat) : Bool := Nat.beq (Nat.mod (Nat.shiftRight v a) 2) 1
def forceU {α : Type} (v : Nat) (k : Nat → α) : α := match v with
  | 0 => k 0
  | n + 1 => k (n + 1)
def ddU : List Addr → Nat → List Addr → List Addr × Nat
  | [], v, acc => (acc, v)
  | a :: l, v, acc => forceU a fun a => match seenU v a with
    | true => ddU l v acc
    | false => forceU (v + 2 ^ a) fun w => ddU l w (a :: acc)
def levU (g : Addr → Option Obj) : Nat → List Addr → Nat → List Addr
  | 0, fr, _ => fr
  | n + 1, fr, v => match ddU (fr.flatMap fun a => match g a with
    | some o => He.refsD o
    | none => []) v [] with
    | (nw, w) => fr ++ levU g n nw w
def asM (g : Addr → Option Obj) (n : Nat) : List Addr := cStatics :: levU g n [mainGlobals] (2 ^ mainGlobals)
abbrev AlM : Type := Bool × Bool × Bool × (Bool × List SupV) × He.AlT
def sepB (K : PySem.W.Frag) (xs ys : List Str) : Bool := ys.all fun y => match codeTab K y with
  | some q => decide (q.2 ≠ 0) && xs.all fun x => match codeTab K x with
    | some p => decide (p.2 ≠ q.2)
    | none => false
  | none => false
def frN (g : Addr → Option Obj) (n : Nat) (zs : List Str) : PySem.W.Frag := noTabs (He.frG g (asM g n)) (tabsOf (He.frG g (asM g n)) zs)
def obsM (n : Nat) (fa : List He.Fa) (fn : List He.DefD) (ts : List (Str × List (Str × List Key))) (us : List (Str × List Str)) (xs ys : List Str) (es : List (Str × Option Str)) (ss : List SupD) (pp : List PrpD) (kq : Bool) (g : Addr → Option Obj) : AlM :=
  (codesB g (He.frG g (asM g n)) (frN g n (xs ++ ys)) (xs ++ ys) && (sepB (He.frG g (asM g n)) xs ys && es.all fun f => tupIs (frN g n (xs ++ ys)) (.ref (He.dflAt f 0 (frN g n (xs ++ ys)))) []) && (!kq || kindAll (frN g n (xs ++ ys))),
    ts.all fun t => dictB (frN g n (xs ++ ys)) t.1 t.2,
    us.all fun t => tupSB (frN g n (xs ++ ys)) t.1 t.2,
    ((ss.all fun d => d.ok (frN g n (xs ++ ys))) && (pp.all fun d => d.ok (frN g n (xs ++ ys))), (ss.map fun d => supW (frN g n (xs ++ ys)) d.at_) ++ pp.map fun d => fnAt (frN g n (xs ++ ys)) (d.gad (frN g n (xs ++ ys)))),
    He.obsT fa fn (ts.map fun t => (fun K => He.ga K t.1, t.2.map (·.1))) (frN g n (xs ++ ys)))
structure SaysM (fa : List He.Fa) (fn : List He.DefD) (ts : List (Str × List (Str × List Key))) (us : List (Str × List Str)) (xs ys : List Str) (es : List (Str × Option Str)) (ss : List SupD) (pp : List PrpD) (kq : Bool) (w : World) (K : PySem.W.Frag) (cs ls : List (Addr × Addr)) (h : Heap) : Prop where
  kin : K.In h
  tabs : ∀ p ∈ cs ++ ls, K.lookup p.2 = none ∧ PySem.W.CodeHd h p.1 p.2 ∧ h.get? p.2 = some { cls := .none, data := .fields #[] }
  link : ∀ x ∈ xs, ∃ p ∈ cs, linkB K x p.1 = true
  linkL : ∀ y ∈ ys, ∃ p ∈ ls, linkB K y p.1 = true ∧ (∀ q ∈ cs, q.2 ≠ p.2) ∧ p.2 ≠ 0
  dic : ∀ t ∈ ts, dictB K t.1 t.2 = true
  tup : ∀ t ∈ us, tupSB K t.1 t.2 = true
  emp : ∀ f ∈ es, tupIs K (.ref (He.dflAt f 0 K)) [] = true
  sup : ∀ d ∈ ss, d.ok K = true
  prp : ∀ d ∈ pp, d.ok K = true
  prpE : pp.map (fun d => fnAt K (d.gad K)) = pp.map PrpD.val
  knd : kq = true → kindAll K = true
  supE : ss.map (fun d => supW K d.at_) = ss.map SupD.val
  says : He.SaysT fa fn (ts.map fun t => (fun K => He.ga K t.1, t.2.map (·.1))) w K
def hookM (n : Nat) (fa : List He.Fa) (fn : List He.DefD) (ts : List (Str × List (Str × List Key))) (us : List (Str × List Str)) (xs ys : List Str) (es : List (Str × Option Str)) (ss : List SupD) (pp : List PrpD) (kq : Bool) : PySem.W.Hook where
  α := AlM
  obs := fun s => obsM n fa fn ts us xs ys es ss pp kq s.heap.get?
  val := fun w => (true, true, true, (true, ss.map SupD.val ++ pp.map PrpD.val), He.valT fn (ts.map fun t => (fun K => He.ga K t.1, t.2.map (·.1))) w)
  says := fun w h => ∃ K cs ls, SaysM fa fn ts us xs ys es ss pp kq w K cs ls h
  of := fun w s e => by
    obtain ⟨e1, e2⟩ := Prod.mk.inj e
    obtain ⟨e2, e4⟩ := Prod.mk.inj e2
    obtain ⟨e4, e3⟩ := Prod.mk.inj e4
    obtain ⟨e7, e3⟩ := Prod.mk.inj e3
    obtain ⟨e7, e8⟩ := Prod.mk.inj e7
    have X : (He.frG s.heap.get? (asM s.heap.get? n)).In s.heap := He.frG_in
    rw [Bool.and_eq_true] at e7
    obtain ⟨e7, e70⟩ := e7
    obtain ⟨e8, e80⟩ := List.append_inj e8 (by rw [List.length_map, List.length_map])
    rw [Bool.and_eq_true, Bool.and_eq_true, Bool.and_eq_true] at e1
    obtain ⟨⟨e1, e5, e6⟩, e9⟩ := e1
    have hap : tabsOf (He.frG s.heap.get? (asM s.heap.get? n)) (xs ++ ys) = tabsOf (He.frG s.heap.get? (asM s.heap.get? n)) xs ++ tabsOf (He.frG s.heap.get? (asM s.heap.get? n)) ys := List.filterMap_append
    have one : ∀ x ∈ xs ++ ys, ∃ p, codeTab (He.frG s.heap.get? (asM s.heap.get? n)) x = some p ∧ PySem.W.codeHdIn (He.frG s.heap.get? (asM s.heap.get? n)) p.1 p.2 = true ∧ emptyTab (s.heap.get? p.2) = true ∧ linkB (frN s.heap.get? n (xs ++ ys)) x p.1 = true := fun x hx => by
      have c := List.all_eq_true.mp e1 x hx
      cases ex : codeTab (He.frG s.heap.get? (asM s.heap.get? n)) x with
      | none =>
        rw [ex] at c
        cases c
      | some p =>
        rw [ex] at c
        dsimp only at c
        rw [Bool.and_eq_true, Bool.and_eq_true] at c
        exact ⟨p, rfl, c.1, c.2.1, c.2.2⟩
    have KX : (frN s.heap.get? n (xs ++ ys)).In s.heap := noTabs_in X
    refine ⟨frN s.heap.get? n (xs ++ ys), tabsOf (He.frG s.heap.get? (asM s.heap.get? n)) xs, tabsOf (He.frG s.heap.get? (asM s.heap.get? n)) ys, KX, fun p hp => ?_, fun x hx => ?_, fun y hy => ?_, fun t ht => List.all_eq_true.mp e2 t ht, fun t ht => List.all_eq_true.mp e4 t ht, fun f hf => List.all_eq_true.mp e6 f hf, fun d hd => List.all_eq_true.mp e7 d hd, fun d hd => List.all_eq_true.mp e70 d hd, e80, (fun hk => by
      rw [hk] at e9
      exact e9), e8, e3⟩
    · rw [← hap] at hp
      obtain ⟨x, hx, ex⟩ := List.mem_filterMap.mp hp
      obtain ⟨p2, e7, c1, c2, c3⟩ := one x hx
      rw [ex] at e7
      cases e7
      exact ⟨noTabs_none hp, PySem.W.codeHd_of_K X c1, emptyTab_ok c2⟩
    · obtain ⟨p, e7, c1, c2, c3⟩ := one x (List.mem_append_left _ hx)
      exact ⟨p, List.mem_filterMap.mpr ⟨x, hx, e7⟩, c3⟩
    · obtain ⟨p, e7, c1, c2, c3⟩ := one y (List.mem_append_right _ hy)
      have c := List.all_eq_true.mp e5 y hy
      rw [e7] at c
      dsimp only at c
      rw [Bool.and_eq_true, decide_eq_true_eq] at c
      refine ⟨p, List.mem_filterMap.mpr ⟨y, hy, e7⟩, c3, fun q hq => ?_, c.1⟩
      obtain ⟨x, hx, ex⟩ := List.mem_filterMap.mp hq
      have c2 := List.all_eq_true.mp c.2 x hx
      rw [ex] at c2
      exact of_decide_eq_true c2
  keeps := fun w h h' ⟨K, cs, ls, S⟩ k => ⟨K, cs, ls, PySem.W.Frag.In.keeps S.kin k, fun p hp => let ⟨a, b, c⟩ := S.tabs p hp; ⟨a, b.keeps k, k _ _ c⟩, S.link, S.linkL, S.dic, S.tup, S.emp, S.sup, S.prp, S.prpE, S.knd, S.supE, S.says⟩
theorem obsM_eq {n : Nat} {fa : List He.Fa} {fn : List He.DefD} {ts : List (Str × List (Str × List Key))} {us : List (Str × List Str)} {xs ys : List Str} {es : List (Str × Option Str)} {ss : List SupD} {pp : List PrpD} {kq : Bool} {g : Addr → Option Obj} {s : Shared} (h : ∀ a, g a = s.heap.get? a) : obsM n fa fn ts us xs ys es ss pp kq g = (hookM n fa fn ts us xs ys es ss pp kq).obs s := by
  have e : g = s.heap.get? := funext h
  rw [e] <;> rfl
section
variable {fa : List He.Fa} {fn : List He.DefD} {ts : List (Str × List (Str × List Key))} {us : List (Str × List Str)} {xs ys : List Str} {es : List (Str × Option Str)} {ss : List SupD} {pp : List PrpD} {kq : Bool} {w : World} {K : PySem.W.Frag} {cs ls : List (Addr × Addr)} {h : Heap}
theorem SaysM.fact (S : SaysM fa fn ts us xs ys es ss pp kq w K cs ls h) (i : Nat) {f : He.Fa} (e : fa[i]? = some f := by rfl) : f.ok K = true := S.says.d.fact i e
theorem SaysM.super (S : SaysM fa fn ts us xs ys es ss pp kq w K cs ls h) (i : Nat) {d : SupD} (e : ss[i]? = some d := by rfl) : ∃ fd, FunS K d fd := by
  have e2 : (ss.map fun d => supW K d.at_)[i]? = (ss.map SupD.val)[i]? := by rw [S.supE]
  rw [List.getElem?_map, List.getElem?_map, e] at e2
  exact SupD.funS (Option.some.inj e2) (S.sup d (List.mem_of_getElem? e))
theorem SaysM.prop (S : SaysM fa fn ts us xs ys es ss pp kq w K cs ls h) (i : Nat) {d : PrpD} (e : pp[i]? = some d := by rfl) : ∃ fd, PrpK K d fd := by
  have e2 : (pp.map fun d => fnAt K (d.gad K))[i]? = (pp.map PrpD.val)[i]? := by rw [S.prpE]
  rw [List.getElem?_map, List.getElem?_map, e] at e2
  exact PrpD.prpK (Option.some.inj e2) (S.prp d (List.mem_of_getElem? e))
theorem SaysM.gt {B : Bs} (S : SaysM fa fn ts us xs ys es ss pp kq B.w B.K cs ls h) (i : Nat) {g : Str} {ws : List Str} (e : us[i]? = some (g, ws)) (hg : B.mg g = some (.ref (He.ga B.K g))) : GtC B g ws := tupSB_ok hg (S.tup _ (List.mem_of_getElem? e))
end
end M
end
section
namespace M
open PySem PySem.Spec PyProof.Rows L2
def topS (i : Nat) : Stmt := PySem.Challenge.pw_batchends_k11_commands_of_clients.main.body.getD i (.Pass ⟨0, 0, 0, 0⟩)
abbrev s_Wire___init__ : Stmt := inClass (topS 30) 0
def d_Wire___init__ : He.DefD := ⟨("Wire", some "__init__"), "__init__", "Wire.__init__", defArgs s_Wire___init__, defBody s_Wire___init__, defScope s_Wire___init__, [], []⟩
abbrev s_EndC___init__ : Stmt := inClass (topS 32) 0
def d_EndC___init__ : He.DefD := ⟨("End", some "__init__"), "__init__", "End.__init__", defArgs s_EndC___init__, defBody s_EndC___init__, defScope s_EndC___init__, [], []⟩
abbrev s_Client___init__ : Stmt := inClass (topS 38) 0
def u_Client___init__ : SupD := ⟨("Client", some "__init__"), "End", "__init__", "Client.__init__", defArgs s_Client___init__, defBody s_Client___init__, defScope s_Client___init__, PySem.Challenge.pw_batchends_k11_commands_of_clients.main.file⟩
abbrev s__law_wrong11 : Stmt := topS 56
def d__law_wrong11 : He.DefD := ⟨("_law_wrong", none), "_law_wrong", "_law_wrong", defArgs s__law_wrong11, defBody s__law_wrong11, defScope s__law_wrong11, [], []⟩
abbrev s__law_row : Stmt := topS 42
def d__law_row : He.DefD := ⟨("_law_row", none), "_law_row", "_law_row", defArgs s__law_row, defBody s__law_row, defScope s__law_row, [], []⟩
abbrev s__law_name : Stmt := topS 43
def d__law_name : He.DefD := ⟨("_law_name", none), "_law_name", "_law_name", defArgs s__law_name, defBody s__law_name, defScope s__law_name, [], []⟩
abbrev s__law_text : Stmt := topS 44
def d__law_text : He.DefD := ⟨("_law_text", none), "_law_text", "_law_text", defArgs s__law_text, defBody s__law_text, defScope s__law_text, [], []⟩
abbrev s__law_value : Stmt := topS 45
def d__law_value : He.DefD := ⟨("_law_value", none), "_law_value", "_law_value", defArgs s__law_value, defBody s__law_value, defScope s__law_value, [], []⟩
abbrev s__law_term : Stmt := topS 46
def d__law_term : He.DefD := ⟨("_law_term", none), "_law_term", "_law_term", defArgs s__law_term, defBody s__law_term, defScope s__law_term, [], []⟩
abbrev s__law_used : Stmt := topS 47
def d__law_used : He.DefD := ⟨("_law_used", none), "_law_used", "_law_used", defArgs s__law_used, defBody s__law_used, defScope s__law_used, [], []⟩
abbrev s__law_statement : Stmt := topS 48
def d__law_statement : He.DefD := ⟨("_law_statement", none), "_law_statement", "_law_statement", defArgs s__law_statement, defBody s__law_statement, defScope s__law_statement, [], []⟩
abbrev s__law_written : Stmt := topS 49
def d__law_written : He.DefD := ⟨("_law_written", none), "_law_written", "_law_written", defArgs s__law_written, defBody s__law_written, defScope s__law_written, [], []⟩
abbrev s__law_unit : Stmt := topS 50
def d__law_unit : He.DefD := ⟨("_law_unit", none), "_law_unit", "_law_unit", defArgs s__law_unit, defBody s__law_unit, defScope s__law_unit, [], []⟩
abbrev s__law_units : Stmt := topS 51
def d__law_units : He.DefD := ⟨("_law_units", none), "_law_units", "_law_units", defArgs s__law_units, defBody s__law_units, defScope s__law_units, [], []⟩
abbrev s__law_cell11 : Stmt := topS 41
def d__law_cell11 : He.DefD := ⟨("_law_cell", none), "_law_cell", "_law_cell", defArgs s__law_cell11, defBody s__law_cell11, defScope s__law_cell11, [], []⟩
abbrev s_Client__added : Stmt := inClass (topS 38) 7
def d_Client__added : He.DefD := ⟨("Client", some "_added"), "_added", "Client._added", defArgs s_Client__added, defBody s_Client__added, defScope s_Client__added, [], []⟩
abbrev s_is_string : Stmt := topS 19
def d_is_string : He.DefD := ⟨("is_string", none), "is_string", "is_string", defArgs s_is_string, defBody s_is_string, defScope s_is_string, [], []⟩
abbrev s_is_name : Stmt := topS 18
def d_is_name : He.DefD := ⟨("is_name", none), "is_name", "is_name", defArgs s_is_name, defBody s_is_name, defScope s_is_name, [], []⟩
abbrev s_Client_prepare : Stmt := inClass (topS 38) 8
def d_Client_prepare : He.DefD := ⟨("Client", some "prepare"), "prepare", "Client.prepare", defArgs s_Client_prepare, defBody s_Client_prepare, defScope s_Client_prepare, [], []⟩
abbrev s_is_text : Stmt := topS 20
def d_is_text : He.DefD := ⟨("is_text", none), "is_text", "is_text", defArgs s_is_text, defBody s_is_text, defScope s_is_text, [], []⟩
abbrev s_is_integer : Stmt := topS 17
def d_is_integer : He.DefD := ⟨("is_integer", none), "is_integer", "is_integer", defArgs s_is_integer, defBody s_is_integer, defScope s_is_integer, [], []⟩
abbrev s_is_value : Stmt := topS 21
def d_is_value : He.DefD := ⟨("is_value", none), "is_value", "is_value", defArgs s_is_value, defBody s_is_value, defScope s_is_value, [], []⟩
abbrev s_Client_bind : Stmt := inClass (topS 38) 9
def d_Client_bind : He.DefD := ⟨("Client", some "bind"), "bind", "Client.bind", defArgs s_Client_bind, defBody s_Client_bind, defScope s_Client_bind, [], []⟩
abbrev s_Client_run : Stmt := inClass (topS 38) 10
def d_Client_run : He.DefD := ⟨("Client", some "run"), "run", "Client.run", defArgs s_Client_run, defBody s_Client_run, defScope s_Client_run, [.int 0], []⟩
abbrev s_Client_forget : Stmt := inClass (topS 38) 11
def d_Client_forget : He.DefD := ⟨("Client", some "forget"), "forget", "Client.forget", defArgs s_Client_forget, defBody s_Client_forget, defScope s_Client_forget, [], []⟩
abbrev s_Client_close : Stmt := inClass (topS 38) 12
def d_Client_close : He.DefD := ⟨("Client", some "close"), "close", "Client.close", defArgs s_Client_close, defBody s_Client_close, defScope s_Client_close, [], []⟩
abbrev s__law_named11 : Stmt := topS 52
def d__law_named11 : He.DefD := ⟨("_law_named", none), "_law_named", "_law_named", defArgs s__law_named11, defBody s__law_named11, defScope s__law_named11, [], []⟩
abbrev s__law_add11 : Stmt := topS 53
def d__law_add11 : He.DefD := ⟨("_law_add", none), "_law_add", "_law_add", defArgs s__law_add11, defBody s__law_add11, defScope s__law_add11, [], []⟩
abbrev s__law_kinds : Stmt := topS 54
def d__law_kinds : He.DefD := ⟨("_law_kinds", none), "_law_kinds", "_law_kinds", defArgs s__law_kinds, defBody s__law_kinds, defScope s__law_kinds, [], []⟩
abbrev s__law_told11 : Stmt := topS 55
def d__law_told11 : He.DefD := ⟨("_law_told", none), "_law_told", "_law_told", defArgs s__law_told11, defBody s__law_told11, defScope s__law_told11, [], []⟩
abbrev s_Client_waiting : Stmt := inClass (topS 38) 3
def u_Client_waiting : PrpD := ⟨"Client", "waiting", "Client.waiting", s_Client_waiting⟩
abbrev s_Client_phase : Stmt := inClass (topS 38) 1
def u_Client_phase : PrpD := ⟨"Client", "phase", "Client.phase", s_Client_phase⟩
abbrev s_number_bytes : Stmt := topS 24
def d_number_bytes : He.DefD := ⟨("number_bytes", none), "number_bytes", "number_bytes", defArgs s_number_bytes, defBody s_number_bytes, defScope s_number_bytes, [], []⟩
abbrev s_string_bytes : Stmt := topS 25
def d_string_bytes : He.DefD := ⟨("string_bytes", none), "string_bytes", "string_bytes", defArgs s_string_bytes, defBody s_string_bytes, defScope s_string_bytes, [], []⟩
abbrev s_value_bytes : Stmt := topS 26
def d_value_bytes : He.DefD := ⟨("value_bytes", none), "value_bytes", "value_bytes", defArgs s_value_bytes, defBody s_value_bytes, defScope s_value_bytes, [], []⟩
abbrev s_row_bytes : Stmt := topS 27
def d_row_bytes : He.DefD := ⟨("row_bytes", none), "row_bytes", "row_bytes", defArgs s_row_bytes, defBody s_row_bytes, defScope s_row_bytes, [], []⟩
abbrev s_whole : Stmt := topS 28
def d_whole : He.DefD := ⟨("whole", none), "whole", "whole", defArgs s_whole, defBody s_whole, defScope s_whole, [], []⟩
abbrev s_client_bytes : Stmt := topS 29
def d_client_bytes : He.DefD := ⟨("client_bytes", none), "client_bytes", "client_bytes", defArgs s_client_bytes, defBody s_client_bytes, defScope s_client_bytes, [], []⟩
abbrev s_Client__send : Stmt := inClass (topS 38) 19
def d_Client__send : He.DefD := ⟨("Client", some "_send"), "_send", "Client._send", defArgs s_Client__send, defBody s_Client__send, defScope s_Client__send, [], []⟩
abbrev s_Client__send_batch : Stmt := inClass (topS 38) 20
def d_Client__send_batch : He.DefD := ⟨("Client", some "_send_batch"), "_send_batch", "Client._send_batch", defArgs s_Client__send_batch, defBody s_Client__send_batch, defScope s_Client__send_batch, [], []⟩
abbrev s_Client_sync : Stmt := inClass (topS 38) 13
def d_Client_sync : He.DefD := ⟨("Client", some "sync"), "sync", "Client.sync", defArgs s_Client_sync, defBody s_Client_sync, defScope s_Client_sync, [], []⟩
abbrev s__law_synced11 : Stmt := topS 57
def d__law_synced11 : He.DefD := ⟨("_law_synced", none), "_law_synced", "_law_synced", defArgs s__law_synced11, defBody s__law_synced11, defScope s__law_synced11, [], []⟩
abbrev s_Client_handed : Stmt := inClass (topS 38) 5
def u_Client_handed : PrpD := ⟨"Client", "handed", "Client.handed", s_Client_handed⟩
abbrev s_told : Stmt := topS 39
def d_told : He.DefD := ⟨("told", none), "told", "told", defArgs s_told, defBody s_told, defScope s_told, [], []⟩
abbrev s_Client_outcome : Stmt := inClass (topS 38) 18
def d_Client_outcome : He.DefD := ⟨("Client", some "outcome"), "outcome", "Client.outcome", defArgs s_Client_outcome, defBody s_Client_outcome, defScope s_Client_outcome, [], []⟩
abbrev s__law_outcome11 : Stmt := topS 58
def d__law_outcome11 : He.DefD := ⟨("_law_outcome", none), "_law_outcome", "_law_outcome", defArgs s__law_outcome11, defBody s__law_outcome11, defScope s__law_outcome11, [], []⟩
abbrev s__law_fifty11 : Stmt := topS 59
def d__law_fifty11 : He.DefD := ⟨("_law_fifty", none), "_law_fifty", "_law_fifty", defArgs s__law_fifty11, defBody s__law_fifty11, defScope s__law_fifty11, [], []⟩
abbrev s_Client_session : Stmt := inClass (topS 38) 4
def u_Client_session : PrpD := ⟨"Client", "session", "Client.session", s_Client_session⟩
abbrev s_Client_received : Stmt := inClass (topS 38) 6
def u_Client_received : PrpD := ⟨"Client", "received", "Client.received", s_Client_received⟩
abbrev s_law11 : Stmt := topS 60
def d_law11 : He.DefD := ⟨("law", none), "law", "law", defArgs s_law11, defBody s_law11, defScope s_law11, [], []⟩
def fnL : List He.DefD := [d_Wire___init__, d_EndC___init__, d__law_wrong11, d__law_row, d__law_name, d__law_text, d__law_value, d__law_term, d__law_used, d__law_statement, d__law_written, d__law_unit, d__law_units, d__law_cell11, d_Client__added, d_is_string, d_is_name, d_Client_prepare, d_is_text, d_is_integer, d_is_value, d_Client_bind, d_Client_run, d_Client_forget, d_Client_close, d__law_named11, d__law_add11, d__law_kinds, d__law_told11, d_number_bytes, d_string_bytes, d_value_bytes, d_row_bytes, d_whole, d_client_bytes, d_Client__send, d_Client__send_batch, d_Client_sync, d__law_synced11, d_told, d_Client_outcome, d__law_outcome11, d__law_fifty11, d_law11]
def faL : List He.Fa := [.glo "Wire", .cls "Wire", .mkr "Wire", .noat "Wire" "_is_good", .noat "Wire" "_left", .noat "Wire" "side", .glo "End", .cls "End", .glo "Client", .cls "Client", .noat "Client" "_wire", .noat "Client" "_to_send", .noat "Client" "_reason", .noat "Client" "_phase", .noat "Client" "_other_side", .free "super", .mkr "Client", .noat "Client" "_replies", .noat "Client" "_outcomes", .noat "Client" "_batches", .noat "Client" "_commands", .noat "Client" "_session", .glo "_law_wrong", .glo "_law_row", .free "int", .free "range", .glo "_law_name", .glo "_law_text", .glo "_law_value", .glo "_law_term", .free "isinstance", .free "str", .glo "_law_used", .free "max", .free "tuple", .glo "_law_statement", .free "len", .glo "_law_written", .glo "_law_unit", .glo "_law_units", .glo "_law_cell", .meth "Client" "_added", .int "MOST_COMMANDS" 20, .glo "BatchFull", .exc "BatchFull", .glo "InvalidCommand", .exc "InvalidCommand", .glo "is_string", .free "all", .str "SIGNS" " !\"#$&'()*+,-./0123456789:;<=>?@ABCDEFGHIJKLMNOPQRSTUVWXYZ[\\]^_`abcdefghijklmnopqrstuvwxyz{|}~", .int "LONGEST_STRING" 200, .glo "is_name", .str "LETTERS" "abcdefghijklmnopqrstuvwxyz", .int "LONGEST_NAME" 8, .meth "Client" "prepare", .glo "is_text", .int "LONGEST_TEXT" 40, .glo "is_integer", .free "bool", .glo "is_value", .int "GREATEST" 2147483647, .int "LEAST" (-2147483648), .meth "Client" "bind", .int "MOST_VALUES" 4, .free "list", .meth "Client" "run", .int "MOST_AT_ONCE" 1000, .meth "Client" "forget", .meth "Client" "close", .glo "_law_named", .glo "_law_add", .glo "_law_kinds", .glo "_law_told", .glo "EndError", .glo "Unreadable", .glo "TooManyBatches", .glo "NotClosed", .glo "NoSuchBatch", .free "ValueError", .glo "number_bytes", .glo "string_bytes", .free "ord", .glo "value_bytes", .glo "row_bytes", .glo "whole", .glo "client_bytes", .glo "CLIENT_WORDS", .meth "Client" "_send", .meth "Client" "_send_batch", .meth "Client" "sync", .int "MOST_BATCHES" 50, .exc "TooManyBatches", .glo "_law_synced", .glo "told", .meth "Client" "outcome", .exc "NoSuchBatch", .glo "_law_outcome", .glo "_law_fifty", .glo "law", .free "repr", .free "min"]
def tsL : List (Str × List (Str × List Key)) := []
def usL : List (Str × List Str) := [("CLIENT_WORDS", ["", "hello", "prepare", "bind", "run", "forget", "close", "sync"])]
def cxL : List Str := ["is_string", "is_name"]
def lmL : List Str := []
def suL : List SupD := [u_Client___init__]
def ppL : List PrpD := [u_Client_waiting, u_Client_phase, u_Client_handed, u_Client_session, u_Client_received]
def emL : List (Str × Option Str) := []
abbrev RR : PySem.W.OpenRow := PySem.W.OpenLaw.row PySem.Challenge.rw_batchends_k11_commands_of_clients
def loose0 : List PySem.Str := ["_wall", "__name__", "EndError", "Unreadable", "InvalidCommand", "BatchFull", "TooManyBatches", "NotClosed", "NoSuchBatch", "LETTERS", "SIGNS", "LEAST", "GREATEST", "LONGEST_NAME", "LONGEST_TEXT", "LONGEST_STRING", "is_integer", "is_name", "is_string", "is_text", "is_value", "CLIENT_WORDS", "number_bytes", "string_bytes", "value_bytes", "row_bytes", "whole", "client_bytes", "Wire", "End"]
def loose1 : List PySem.Str := ["MOST_COMMANDS", "MOST_BATCHES", "MOST_VALUES", "MOST_AT_ONCE", "Client", "told", "_law_cell", "_law_row", "_law_name", "_law_text", "_law_value", "_law_term", "_law_used", "_law_statement", "_law_written", "_law_unit", "_law_units", "_law_named", "_law_add", "_law_kinds", "_law_told", "_law_wrong", "_law_synced", "_law_outcome", "_law_fifty"]
def looseL : List PySem.Str := loose0 ++ loose1
open PySem.W PySem.Calls HandSHeadRun
abbrev hkL : PySem.W.Hook := hookM 5 faL fnL tsL usL cxL lmL emL suL ppL true
def obL (s : PySem.W.SharedT) : AlM := obsM 5 faL fnL tsL usL cxL lmL emL suL ppL true (HandSHeadRun.getT s)
theorem obL_eq (s : PySem.W.SharedT) : obL s = hkL.obs s.abs := obsM_eq (HandSHeadRun.getT_eq s)
abbrev qL : Program := PySem.W.view RR.prog [60]
noncomputable def F1 (w : World) (s : PySem.W.SharedT) := (looksF RR.prog (boot_heap w.params) s.abs, seenQ qL looseL (importedModules RR.prog.main.body) (fun s => xlAt qL [] s && recOk RR.toRowW.records s) s.abs, (obL s).1, (obL s).2.1, (obL s).2.2.1, (obL s).2.2.2.1)
noncomputable def F2 (s : PySem.W.SharedT) := (obL s).2.2.2.2.1.1
noncomputable def F3 (s : PySem.W.SharedT) := (obL s).2.2.2.2.1.2
noncomputable def F4 (s : PySem.W.SharedT) := (obL s).2.2.2.2.2
abbrev tbL : List He.Tab := tsL.map fun t => (fun K => He.ga K t.1, t.2.map (·.1))
theorem pk {w : World} {s : PySem.W.SharedT} (e1 : F1 w s = (true, openGood qL looseL, true, true, true, (true, suL.map SupD.val ++ ppL.map PrpD.val))) (e2 : F2 s = true) (e3 : F3 s = fnL.map He.DefD.val) (e4 : F4 s = tbL.map fun t => some (He.keysIn w.params t.2)) :
    (looksF RR.prog (boot_heap w.params) s.abs, seenQ qL looseL (importedModules RR.prog.main.body) (fun s => xlAt qL [] s && recOk RR.toRowW.records s) s.abs, obL s) = (true, openGood qL looseL, hkL.val w) := by
  unfold F1 at e1
  obtain ⟨a1, e1⟩ := Prod.mk.inj e1
  obtain ⟨a2, e1⟩ := Prod.mk.inj e1
  obtain ⟨a3, e1⟩ := Prod.mk.inj e1
  obtain ⟨a4, e1⟩ := Prod.mk.inj e1
  obtain ⟨a5, a6⟩ := Prod.mk.inj e1
  unfold F2 at e2
  unfold F3 at e3
  unfold F4 at e4
  have z : obL s = ((obL s).1, (obL s).2.1, (obL s).2.2.1, (obL s).2.2.2.1, (((obL s).2.2.2.2.1.1, (obL s).2.2.2.2.1.2), (obL s).2.2.2.2.2)) := rfl
  have y : obL s = (true, true, true, (true, suL.map SupD.val ++ ppL.map PrpD.val), ((true, fnL.map He.DefD.val), tbL.map fun t => some (He.keysIn w.params t.2))) := by
    rw [z, a3, a4, a5, a6, e2, e3, e4]
  rw [a1, a2, y]
  rfl
theorem joinR {w : World} {os : OsState} (g1 : (endF (stepQ (denQ tabQ) RR.prog w) 8000 RR.prog w os).map (F1 w) = some (true, openGood qL looseL, true, true, true, (true, suL.map SupD.val ++ ppL.map PrpD.val))) (g2 : (endF (stepQ (denQ tabQ) RR.prog w) 8000 RR.prog w os).map F2 = some true) (g3 : (endF (stepQ (denQ tabQ) RR.prog w) 8000 RR.prog w os).map F3 = some (fnL.map He.DefD.val)) (g4 : (endF (stepQ (denQ tabQ) RR.prog w) 8000 RR.prog w os).map F4 = some (tbL.map fun t => some (He.keysIn w.params t.2))) :
    (endF (stepQ (denQ tabQ) RR.prog w) 8000 RR.prog w os).map (fun s => (looksF RR.prog (boot_heap w.params) s.abs, seenQ qL looseL (importedModules RR.prog.main.body) (fun s => xlAt qL [] s && recOk RR.toRowW.records s) s.abs, obL s)) = some (true, openGood qL looseL, hkL.val w) := by
  generalize endF (stepQ (denQ tabQ) RR.prog w) 8000 RR.prog w os = X at g1 g2 g3 g4 ⊢
  cases X with
  | none => cases g1
  | some s => exact congrArg some (pk (Option.some.inj g1) (Option.some.inj g2) (Option.some.inj g3) (Option.some.inj g4))
theorem run_x (w : World) (g1 : ∀ os, (endF (stepQ (denQ tabQ) RR.prog w) 8000 RR.prog w os).map (F1 w) = some (true, openGood qL looseL, true, true, true, (true, suL.map SupD.val ++ ppL.map PrpD.val))) (g2 : ∀ os, (endF (stepQ (denQ tabQ) RR.prog w) 8000 RR.prog w os).map F2 = some true) (g3 : ∀ os, (endF (stepQ (denQ tabQ) RR.prog w) 8000 RR.prog w os).map F3 = some (fnL.map He.DefD.val)) (g4 : ∀ os, (endF (stepQ (denQ tabQ) RR.prog w) 8000 RR.prog w os).map F4 = some (tbL.map fun t => some (He.keysIn w.params t.2))) : HandSHeadRun.RunEq RR (PySem.W.view RR.prog [60]) hkL obL 8000 looseL w := fun os => joinR (g1 os) (g2 os) (g3 os) (g4 os)
set_option maxHeartbeats 0 in
theorem g1_false (w : World) (os : OsState) : (endF (stepQ (denQ tabQ) RR.prog (w.withFollow "special-get-raises" false)) 8000 RR.prog (w.withFollow "special-get-raises" false) os).map (F1 (w.withFollow "special-get-raises" false)) = some (true, openGood qL looseL, true, true, true, (true, suL.map SupD.val ++ ppL.map PrpD.val)) := by
  kernel_rfl
set_option maxHeartbeats 0 in
theorem g2_false (w : World) (os : OsState) : (endF (stepQ (denQ tabQ) RR.prog (w.withFollow "special-get-raises" false)) 8000 RR.prog (w.withFollow "special-get-raises" false) os).map F2 = some true := by
  kernel_rfl
set_option maxHeartbeats 0 in
theorem g3_false (w : World) (os : OsState) : (endF (stepQ (denQ tabQ) RR.prog (w.withFollow "special-get-raises" false)) 8000 RR.prog (w.withFollow "special-get-raises" false) os).map F3 = some (fnL.map He.DefD.val) := by
  kernel_rfl
set_option maxHeartbeats 0 in
theorem g4_false (w : World) (os : OsState) : (endF (stepQ (denQ tabQ) RR.prog (w.withFollow "special-get-raises" false)) 8000 RR.prog (w.withFollow "special-get-raises" false) os).map F4 = some (tbL.map fun t => some (He.keysIn (w.withFollow "special-get-raises" false).params t.2)) := by
  kernel_rfl
theorem run_false (w : World) : HandSHeadRun.RunEq RR (PySem.W.view RR.prog [60]) hkL obL 8000 looseL (w.withFollow "special-get-raises" false) := run_x _ (g1_false w) (g2_false w) (g3_false w) (g4_false w)
set_option maxHeartbeats 0 in
theorem g1_true (w : World) (os : OsState) : (endF (stepQ (denQ tabQ) RR.prog (w.withFollow "special-get-raises" true)) 8000 RR.prog (w.withFollow "special-get-raises" true) os).map (F1 (w.withFollow "special-get-raises" true)) = some (true, openGood qL looseL, true, true, true, (true, suL.map SupD.val ++ ppL.map PrpD.val)) := by
  kernel_rfl
set_option maxHeartbeats 0 in
theorem g2_true (w : World) (os : OsState) : (endF (stepQ (denQ tabQ) RR.prog (w.withFollow "special-get-raises" true)) 8000 RR.prog (w.withFollow "special-get-raises" true) os).map F2 = some true := by
  kernel_rfl
set_option maxHeartbeats 0 in
theorem g3_true (w : World) (os : OsState) : (endF (stepQ (denQ tabQ) RR.prog (w.withFollow "special-get-raises" true)) 8000 RR.prog (w.withFollow "special-get-raises" true) os).map F3 = some (fnL.map He.DefD.val) := by
  kernel_rfl
set_option maxHeartbeats 0 in
theorem g4_true (w : World) (os : OsState) : (endF (stepQ (denQ tabQ) RR.prog (w.withFollow "special-get-raises" true)) 8000 RR.prog (w.withFollow "special-get-raises" true) os).map F4 = some (tbL.map fun t => some (He.keysIn (w.withFollow "special-get-raises" true).params t.2)) := by
  kernel_rfl
theorem run_true (w : World) : HandSHeadRun.RunEq RR (PySem.W.view RR.prog [60]) hkL obL 8000 looseL (w.withFollow "special-get-raises" true) := run_x _ (g1_true w) (g2_true w) (g3_true w) (g4_true w)
theorem runL (w : World) : HandSHeadRun.RunEq RR (PySem.W.view RR.prog [60]) hkL obL 8000 looseL w := PySem.W.byRow2 "special-get-raises" (P := fun w => HandSHeadRun.RunEq RR (PySem.W.view RR.prog [60]) hkL obL 8000 looseL w) run_false run_true w
end M
end
section
namespace M
open PySem PySem.Spec PyProof.Rows L2
abbrev Rk := Int ⊕ List Nat
def RkAt (h : Heap) (v : Value) (k : Rk) : Prop := ∃ (p : Addr) (o : Obj) (xs : Array Value) (n : Nat), v = .ref p ∧ h.get? p = some o ∧ o.cls = .type "tuple" ∧ o.data = .seq xs n ∧
  ((∃ i t t', xs = #[.int 0 t, .int i t'] ∧ k = .inl i) ∨ ∃ z t t', xs = #[.int 1 t, .str z t'] ∧ k = .inr z.cps.toList)
theorem RkAt.uniq {h : Heap} {v : Value} {k k' : Rk} (a : RkAt h v k) (b : RkAt h v k') : k = k' := by
  obtain ⟨p, o, xs, n, rfl, e1, e2, e3, e4⟩ := a
  obtain ⟨p', o', xs', n', q0, q1, q2, q3, q4⟩ := b
  cases q0
  rw [e1] at q1
  cases q1
  rw [e3] at q3
  cases q3
  rcases e4 with ⟨i, t, t', rfl, rfl⟩ | ⟨z, t, t', rfl, rfl⟩ <;> rcases q4 with ⟨i', u, u', e, rfl⟩ | ⟨z', u, u', e, rfl⟩
  · simp at e; simp [e.2.1]
  · simp at e
  · simp at e
  · simp at e; simp [e.2.1]
end M
end
section
namespace M
open PySem PySem.Spec PyProof.Rows L2
section
variable {X : Cx} {pins : List (Addr × Obj)} {σ : L2.St} {H : Hp} {s : Shared}
def RowsV (X : Cx) (S : Ss) (vs : List Value) (ds : List D) : Prop := PySem.W.EachIs (fun u d => ∃ v, Rep X.K S.vw d v ∧ RelV v u) vs ds
theorem RowsV.le {S S' : Ss} {vs : List Value} {ds : List D} (h : RowsV X S vs ds) (l : S.le S') : RowsV X S' vs ds := PySem.W.EachIs.mono (fun _ _ ⟨v, r, q⟩ => ⟨v, r.mono l.1, q⟩) h
end
end M
end
section
namespace M
open PySem PySem.Spec PyProof.Rows L2
section
variable {B : Bs} {T : List Addr} {cls : Nat → Addr} {k : Nat} {cd : Prop} {X : Cx} {Wx : WX}
def fAddM : XF := fun _ _ _ e => match e with
  | .BinOp a .Add b _ => if isStar a = false ∧ isStar b = false then some [a, b] else none
  | _ => none
def eAddM : EvE := fun _ ds μ Q _ => match ds with
  | [x, y] => match asLM x μ, asLM y μ with
    | some xs, some ys => xs.length + ys.length ≤ sizeLine ∧ Q (.obj μ.next) (μ.new (.lst (xs ++ ys)))
    | _, _ => False
  | _ => False
def R2m (W : Wd) : R2 := fun x y H Q => ∃ S dx dy QM, S.H = H ∧ Rl W S ∧ Rep W.K S.vw dx x ∧ Rep W.K S.vw dy y ∧ eAddM [] [dx, dy] S.μ QM (fun _ _ => False) ∧ After W S QM Q
theorem addM_ok : OpR X (binaryOp .Add) (R2m (wd X T cls)) := by
  intro pins s σ _ x y v u Q I rx ry h0
  obtain ⟨S, dx, dy, QM, rfl, R, hx, hy, hb, hq⟩ := h0
  unfold eAddM at hb
  dsimp only at hb
  split at hb
  · rename_i xs ys e1 e2
    obtain ⟨a, vx, r1, g1, q1⟩ := asLM_rep R hx e1
    obtain ⟨b, vy, r2, g2, q2⟩ := asLM_rep R hy e2
    exact op_cat pins s σ _ x y v u Q I rx ry ⟨a, b, vx, vy, r1, r2, g1, g2, by rw [q1.length, q2.length]; exact hb.1, new_lst R (q1.append q2) hb.2 hq⟩
  · exact hb.elim
theorem n_addM : NodOk B T cls k cd fAddM eAddM := by
  intro X top Wx e es as S hf hp
  unfold fAddM at hf
  split at hf
  · rename_i a b pos
    split at hf
    · rename_i hst
      cases hf
      obtain ⟨ca, cb, rfl, _, ha, _, hb⟩ := hp.two
      refine PE.weak (pe_op (addM_ok (T := T) (cls := cls)) ha hb) fun σ H Q h => ?_
      obtain ⟨S0, δ, QM, QX, rfl, R, hE, hw, hq, hx⟩ := h
      simp only [wpE, wpA] at hw
      exact ⟨S0, δ, _, QX, rfl, R, hE, hw, fun S1 d1 v1 l1 R1 r1 w1 => ⟨S1, δ, _, QX, rfl, R1, hE.mono l1.1, w1, fun S2 d2 v2 l2 R2 r2 w2 => ⟨S2, d1, d2, QM, rfl, R2, r1.mono l2.1, r2, w2, hq.le (l1.trans l2)⟩, hx.le l1⟩, hx⟩
    · cases hf
  · cases hf
end
end M
end
section
namespace M
open PySem PySem.Spec PyProof.Rows L2
open SX (S S_len S_cat)
theorem fin_same {μ : Sto} {Q : Post} {d : D} (hw : μ.wf) (ho : objB μ.next d = true) (h : Q d μ) : finP μ.next Q d μ :=
  ⟨μ, Nat.le_refl _, ⟨Nat.le_refl _, fun j c e => ⟨e, hw j c e⟩⟩, ho, h⟩
theorem part_self {μ : Sto} (hw : μ.wf) : μ.Part μ := ⟨Nat.le_refl _, fun j c e => ⟨e, hw j c e⟩⟩
theorem part_new {μ μ' : Sto} {c : Cell} (h : μ.Part μ') (hw : ∀ j d, μ.cell j = some d → j < μ'.next) : μ.Part (μ'.new c) :=
  ⟨Nat.le_succ_of_le h.nx, fun j d e => ⟨by rw [Sto.new_ne (Nat.ne_of_lt (hw j d e))]; exact (h.sub j d e).1, (h.sub j d e).2⟩⟩
theorem fin_part {μ μ' : Sto} {Q : Post} {d : D} (hp : μ.Part μ') (ho : objB μ.next d = true) (h : Q d μ) : finP μ.next Q d μ' := ⟨μ, Nat.le_refl _, hp, ho, h⟩
theorem of_S (x : Str) : ∃ l, x = S l := ⟨x.cps.toList, (SX.S_tl x).symm⟩
theorem S_cps (l : List Nat) : (S l).cps.toList = l := rfl
theorem deq_S (a b : List Nat) : deq (.str (S a)) (.str (S b)) = decide (a = b) := by
  unfold deq pyOf PyData.eqv
  first | exact SX.S_beq_eq | (simp only [SX.S_beq_eq])
theorem eqOk_str (x : Str) : eqOk (.str x) = true := rfl
theorem eqOk_int (x : Int) : eqOk (.int x) = true := rfl
theorem eqOk_non : eqOk .non = true := rfl
theorem deq_int (a b : Int) : deq (.int a) (.int b) = decide (a = b) := by
  unfold deq pyOf PyData.eqv
  rw [Bool.eq_iff_iff]
  simp
theorem cut_1 {α : Type} (l : List α) : cutD l (some 1) none = l.drop 1 := by
  unfold cutD
  rw [show HT.sIx l.length 0 (some 1) = min 1 l.length from HT.sIx_nat l.length 0 1, show HT.sIx l.length l.length none = l.length from rfl]
  cases l <;> simp
theorem cut_from {α : Type} (l : List α) (n : Nat) : cutD l (some (n : Int)) none = l.drop n := by
  unfold cutD
  rw [show HT.sIx l.length 0 (some (n : Int)) = min n l.length from HT.sIx_nat l.length 0 n, show HT.sIx l.length l.length none = l.length from rfl]
  by_cases h : n ≤ l.length
  · rw [Nat.min_eq_left h, List.take_of_length_le (by rw [List.length_drop]; omega)]
  · rw [Nat.min_eq_right (by omega), List.drop_of_length_le (Nat.le_refl _), List.drop_of_length_le (by omega), List.take_nil]
theorem cut_to {α : Type} (l : List α) (n : Nat) : cutD l none (some (n : Int)) = l.take n := by
  unfold cutD
  rw [show HT.sIx l.length 0 none = 0 from rfl, show HT.sIx l.length l.length (some (n : Int)) = min n l.length from HT.sIx_nat l.length l.length n]
  rw [List.drop_zero, Nat.sub_zero]
  by_cases h : n ≤ l.length
  · rw [Nat.min_eq_left h]
  · rw [Nat.min_eq_right (by omega), List.take_of_length_le (Nat.le_refl _), List.take_of_length_le (by omega)]
theorem cut_mid {α : Type} (l : List α) (m n : Nat) : cutD l (some (m : Int)) (some (n : Int)) = (l.take n).drop m := by
  unfold cutD
  rw [show HT.sIx l.length 0 (some (m : Int)) = min m l.length from HT.sIx_nat l.length 0 m, show HT.sIx l.length l.length (some (n : Int)) = min n l.length from HT.sIx_nat l.length l.length n]
  rw [List.drop_take]
  have e1 : List.drop (min m l.length) l = List.drop m l := by
    by_cases hm : m ≤ l.length
    · rw [Nat.min_eq_left hm]
    · rw [Nat.min_eq_right (show l.length ≤ m by omega), List.drop_of_length_le (Nat.le_refl _), List.drop_of_length_le (show l.length ≤ m by omega)]
  rw [e1]
  by_cases h : n - m ≤ l.length - m
  · congr 1
    omega
  · rw [List.take_of_length_le (show (List.drop m l).length ≤ min n l.length - min m l.length by rw [List.length_drop]; omega), List.take_of_length_le (show (List.drop m l).length ≤ n - m by rw [List.length_drop]; omega)]
theorem atI_zero {α : Type} (x : α) (l : List α) : atI (x :: l) 0 = some x := by
  unfold atI ixN
  simp
theorem atI_nat' {α : Type} (l : List α) (n : Nat) : atI l (n : Int) = l[n]? := by
  unfold atI ixN
  rw [if_pos (by omega)]
  by_cases h : n < l.length
  · rw [if_pos (by omega)]
    rfl
  · rw [if_neg (by omega), List.getElem?_eq_none (by omega)]
    rfl
section
variable {μ : Sto} {x : Str} {i : Int} {b : Bool} {ds : List D} {k : Nat} {n : String}
theorem tn_str : tyName (.str x) μ = some "str" := rfl
theorem tn_int : tyName (.int i) μ = some "int" := rfl
theorem tn_bl : tyName (.bl b) μ = some "bool" := rfl
theorem tn_non : tyName .non μ = some "NoneType" := rfl
theorem tn_tup : tyName (.tup ds) μ = some "tuple" := rfl
theorem tn_lst : tyName (.lst ds) μ = some "list" := rfl
theorem tn_scr : tyName (.scr ds) μ = some "list" := rfl
theorem sq_tup : asSeq (.tup ds) μ = some ds := rfl
theorem sq_lst : asSeq (.lst ds) μ = some ds := rfl
theorem sq_scr : asSeq (.scr ds) μ = some ds := rfl
theorem sq_obj (h : μ.cell k = some (.lst ds)) : asSeq (.obj k) μ = some ds := by simp [asSeq, asL, h]
theorem sq_str : asSeq (.str x) μ = none := rfl
theorem sq_int : asSeq (.int i) μ = none := rfl
theorem sq_non : asSeq .non μ = none := rfl
theorem l_lst : asL (.lst ds) μ = some ds := rfl
theorem l_scr : asL (.scr ds) μ = some ds := rfl
theorem l_obj (h : μ.cell k = some (.lst ds)) : asL (.obj k) μ = some ds := by simp [asL, h]
theorem l_tup : asL (.tup ds) μ = none := rfl
theorem lm_lst : asLM (.lst ds) μ = some ds := rfl
theorem lm_obj (h : μ.cell k = some (.lst ds)) : asLM (.obj k) μ = some ds := by simp [asLM, h]
theorem lm_str : asLM (.str x) μ = none := rfl
theorem lm_int : asLM (.int i) μ = none := rfl
theorem lm_tup : asLM (.tup ds) μ = none := rfl
theorem lm_non : asLM .non μ = none := rfl
theorem lm_bl : asLM (.bl b) μ = none := rfl
theorem td_str : tyD n (.str x) μ = (n == "str") := rfl
theorem td_lst : tyD n (.lst ds) μ = (n == "list") := rfl
theorem td_obj (h : μ.cell k = some (.lst ds)) : tyD n (.obj k) μ = (n == "list") := by simp [tyD, h]
theorem td_dct {kvs : List (Key × D)} (h : μ.cell k = some (.dct kvs)) : tyD n (.obj k) μ = (n == "dict") := by simp [tyD, h]
end
theorem itD_of {d : D} {μ : Sto} {xs : List D} {K : IPost} (h : asSeq d μ = some xs) (hk : ∀ gd : Sto → Prop, gd μ → K xs gd μ) : itD d μ K := by
  unfold asSeq at h
  split at h
  · cases h; exact hk _ trivial
  · unfold asL at h
    split at h
    · cases h; exact hk _ trivial
    · cases h; exact hk _ trivial
    · rename_i k
      split at h
      · rename_i c hc
        cases h
        unfold itD
        simp only [hc]
        exact hk _ hc
      · cases h
    · cases h
theorem loopC_pure {turn : D → Sto → (Option D → Sto → Prop) → Prop} {gd : Sto → Prop} {fin : List D → Sto → Prop} (f : D → Option D) {μ : Sto} (hg : gd μ) : ∀ {xs acc : List D}, (∀ x ∈ xs, ∀ N : Option D → Sto → Prop, N (f x) μ → turn x μ N) → acc.length + xs.length ≤ sizeLine → fin (acc ++ xs.filterMap f) μ → loopC turn gd fin xs acc μ
  | [], acc, _, _, hf => ⟨hg, by simpa using hf⟩
  | x :: r, acc, h, hl, hf => by
    rw [List.length_cons] at hl
    refine ⟨hg, h x List.mem_cons_self _ ?_⟩
    rw [List.filterMap_cons] at hf
    cases e : f x with
    | none =>
      rw [e] at hf
      exact loopC_pure f hg (fun y hy => h y (List.mem_cons_of_mem _ hy)) (by omega) hf
    | some y =>
      rw [e] at hf
      exact ⟨by omega, loopC_pure f hg (fun y hy => h y (List.mem_cons_of_mem _ hy)) (by rw [List.length_append, List.length_singleton]; omega) (by simpa using hf)⟩
theorem loopC_map {turn : D → Sto → (Option D → Sto → Prop) → Prop} {gd : Sto → Prop} {fin : List D → Sto → Prop} (f : D → D) {μ : Sto} (hg : gd μ) {xs : List D} (h : ∀ x ∈ xs, ∀ N : Option D → Sto → Prop, N (some (f x)) μ → turn x μ N) (hl : xs.length ≤ sizeLine) (hf : fin (xs.map f) μ) : loopC turn gd fin xs [] μ :=
  loopC_pure (fun x => some (f x)) hg h (by simpa using hl) (by rw [List.nil_append, List.filterMap_eq_map']; exact hf)
theorem deq_str (x y : Str) : deq (.str x) (.str y) = decide (x = y) := by
  obtain ⟨a, rfl⟩ := of_S x
  obtain ⟨b, rfl⟩ := of_S y
  rw [deq_S, Bool.eq_iff_iff]
  simp
theorem two_le : 2 ≤ sizeLine := by rw [sizeLine_eq]; omega
theorem part_del {μ μ' : Sto} (hw : μ.wf) (h : μ.Part μ') {k : Nat} (hk : μ.next ≤ k) : μ.Part (μ'.del k) :=
  ⟨h.nx, fun j c e => ⟨by rw [Sto.del_ne (by have := (hw j c e).1; omega)]; exact (h.sub j c e).1, (h.sub j c e).2⟩⟩
theorem part_put {μ μ' : Sto} (hw : μ.wf) (h : μ.Part μ') {k : Nat} {c : Cell} (hk : μ.next ≤ k) : μ.Part (μ'.put k c) :=
  ⟨h.nx, fun j d e => ⟨by rw [Sto.put_ne (by have := (hw j d e).1; omega)]; exact (h.sub j d e).1, (h.sub j d e).2⟩⟩
theorem part_mk {μ μ' : Sto} (hw : μ.wf) (h : μ.Part μ') {c : Cell} : μ.Part (μ'.new c) :=
  part_new h fun j d e => Nat.lt_of_lt_of_le (hw j d e).1 h.nx
theorem part_nx {μ μ' : Sto} (h : μ.Part μ') : μ.next ≤ μ'.next := h.nx
theorem it_lst {ds : List D} {μ : Sto} {K : IPost} : itD (.lst ds) μ K = K ds (fun _ => True) μ := rfl
theorem it_tup {ds : List D} {μ : Sto} {K : IPost} : itD (.tup ds) μ K = K ds (fun _ => True) μ := rfl
theorem maxI_in {z : Int} {ns : List Int} (lo hi : Int) (hz : lo ≤ z ∧ z ≤ hi) (h : ∀ n ∈ ns, lo ≤ n ∧ n ≤ hi) : lo ≤ maxI z ns ∧ maxI z ns ≤ hi := by
  cases ns with
  | nil => exact hz
  | cons n ns => exact h _ (foldl_max ns n).1
theorem atI_one {α : Type} (x y : α) (l : List α) : atI (x :: y :: l) 1 = some y := atI_nat' (x :: y :: l) 1
theorem for_gen {turn : D → Env → Sto → (Env → Sto → Prop) → Prop} {F : Env → Sto → Prop} {gd : Sto → Prop} (I : Nat → Env → Sto → Prop) {xs : List D} {δ : Env} {μ : Sto} (h : I 0 δ μ)
    (step : ∀ (i : Nat) (x : D) (LW : Env → Sto → Prop), xs[i]? = some x → (∀ δ μ, I (i + 1) δ μ → LW δ μ) → ∀ δ μ, I i δ μ → gd μ ∧ turn x δ μ LW)
    (fin : ∀ δ μ, I xs.length δ μ → gd μ ∧ F δ μ) : loopF turn gd F xs δ μ := by
  have : ∀ (ys : List D) (i : Nat) δ μ, xs.drop i = ys → i ≤ xs.length → I i δ μ → loopF turn gd F ys δ μ := by
    intro ys
    induction ys with
    | nil =>
      intro i δ μ e hi h
      have : i = xs.length := by
        have := congrArg List.length e
        rw [List.length_drop, List.length_nil] at this
        omega
      subst this
      exact fin δ μ h
    | cons y ys ih =>
      intro i δ μ e hi h
      have hlt : i < xs.length := by
        have := congrArg List.length e
        rw [List.length_drop, List.length_cons] at this
        omega
      rw [List.drop_eq_getElem_cons hlt] at e
      injection e with e1 e2
      exact step i y _ (by rw [List.getElem?_eq_getElem hlt, e1]) (fun δ μ h => ih (i + 1) δ μ e2 (by omega) h) δ μ h
  exact this xs 0 δ μ rfl (Nat.zero_le _) h
theorem intsD_len {lo : Int} {n : Nat} : (intsD lo n).length = n := by simp [intsD]
theorem intsD_at {lo : Int} {n i : Nat} {x : D} (h : (intsD lo n)[i]? = some x) : i < n ∧ x = .int (lo + i) := by
  have hi : i < n := by
    have := (List.getElem?_eq_some_iff.mp h).1
    rwa [intsD_len] at this
  rw [intsD_get hi] at h
  cases h
  exact ⟨hi, rfl⟩
theorem fmod_lt {a b : Int} (h : 0 < b) : 0 ≤ a.fmod b ∧ a.fmod b < b := by
  rw [Int.fmod_eq_emod_of_nonneg _ (Int.le_of_lt h)]
  exact ⟨Int.emod_nonneg _ (by omega), Int.emod_lt_of_pos _ h⟩
end M
end
section
namespace M
open PySem PySem.Spec PyProof.Rows L2
open SX (S S_len S_cat)
def lettersL : List Nat := ("abcdefghijklmnopqrstuvwxyz" : Str).cps.toList
def digitsL : List Nat := ("0123456789" : Str).cps.toList
def signsL : List Nat := (" !\"#$&'()*+,-./0123456789:;<=>?@ABCDEFGHIJKLMNOPQRSTUVWXYZ[\\]^_`abcdefghijklmnopqrstuvwxyz{|}~" : Str).cps.toList
def isName (l : List Nat) : Bool := decide (1 ≤ l.length) && decide (l.length ≤ 8) && l.all fun c => decide (c ∈ lettersL)
def isStrg (l : List Nat) : Bool := decide (l.length ≤ 200) && l.all fun c => decide (c ∈ signsL)
def isText (l : List Nat) : Bool := isStrg l && decide (l.length ≤ 40) && !decide (39 ∈ l)
def spB (f : List Nat → Bool) : Spec := fun ds μ Q _ => match ds with
  | [.str x] => x.length ≤ sizeLine ∧ Q (.bl (f x.cps.toList)) μ
  | [d] => (tyName d μ).isSome = true ∧ Q (.bl false) μ
  | _ => False
def sp_is_name : Spec := spB isName
def sp_is_string : Spec := spB isStrg
def sp_is_text : Spec := spB isText
def fp : List Nat → List Nat
  | [] => []
  | c :: r => if c = 39 then (if 39 ∈ r then 39 :: (r.takeWhile (fun x => decide (x ≠ 39)) ++ [39]) else []) else (c :: r).takeWhile fun x => decide (x ≠ 32)
def prs : Nat → List (List Nat) → List Nat → Option (List (List Nat))
  | 0, _, _ => none
  | _ + 1, acc, [] => some acc
  | n + 1, acc, c :: r => if c ≠ 32 ∨ fp r = [] then none else prs n (acc ++ [fp r]) (r.drop (fp r).length)
def partsOf (l : List Nat) : Option (List (List Nat)) := prs (l.length + 2) [] (32 :: l)
def strD (l : List Nat) : D := .str (S l)
def digs (l : List Nat) : List Nat := if l.take 1 = [45] then l.drop 1 else l
def numOf (l : List Nat) : Option Int :=
  if ¬ (1 ≤ (digs l).length ∧ (digs l).length ≤ 10) ∨ ((digs l).all fun c => decide (c ∈ digitsL)) = false then none
  else if (digs l).head? = some 48 ∧ l ≠ [48] then none
  else
    let n : Int := (NumText.digitsVal (digs l) : Nat)
    let m : Int := if l.take 1 = [45] then -n else n
    if -2147483648 ≤ m ∧ m ≤ 2147483647 then some m else none
def optI (o : Option Int) : D := match o with
  | none => .non
  | some i => .int i
def parD (n : Int) : D := .tup [.str "parameter", .int n]
def txtD (l : List Nat) : D := .tup [.str "text", .str (S l)]
def termOf (l : List Nat) : D :=
  if l.take 1 = [39] then (if l.length > 1 ∧ l.getLast? = some 39 ∧ isText (l.drop 1).dropLast = true then txtD (l.drop 1).dropLast else .non)
  else if l.take 1 = [36] then (match l with
    | [_, c] => if c ∈ [49, 50, 51, 52] then parD ((c - 48 : Nat) : Int) else .non
    | _ => .non)
  else optI (numOf l)
def parN (d : D) : Option Int := match d with
  | .tup [.str k, .int n] => if k = "parameter" then some n else none
  | .lst [.str k, .int n] => if k = "parameter" then some n else none
  | _ => none
def okItem (d : D) : Bool := match d with
  | .str _ | .int _ => true
  | .tup [.str _, .int _] | .lst [.str _, .int _] => true
  | .tup [.str k, .str _] | .lst [.str k, .str _] => decide (k ≠ "parameter")
  | _ => false
def parNs (ds : List D) : List Int := ds.filterMap parN
def tbl_FORMS : List (Str × D) := [("create", .tup [.int 1]), ("drop", .tup [.int 1]), ("put", .tup [.int 3]), ("delete", .tup [.int 2]), ("get", .tup [.int 2]), ("scan", .tup [.int 1, .int 3]), ("total", .tup [.int 1]), ("begin", .tup [.int 0]), ("commit", .tup [.int 0]), ("rollback", .tup [.int 0]), ("save", .tup [.int 1]), ("undo", .tup [.int 1])]
def formOk (l : List Nat) (n : Nat) : Bool := match tbl_FORMS.lookup (S l) with
  | some (.tup ds) => ds.any fun d => match d with
    | .int i => decide (i = (n : Int))
    | _ => false
  | _ => false
def headOk (ps : List (List Nat)) : Bool := match ps with
  | [] => false
  | [w] => formOk w 0
  | w :: n :: r => formOk w (r.length + 1) && isName n
def stmtOf (ps : List (List Nat)) : Option (List D) :=
  if headOk ps = false then none
  else if ((ps.drop 2).map termOf).any isNonD = true then none
  else
    let r := (ps.take 2).map strD ++ (ps.drop 2).map termOf
    if ((intsD 1 (maxI 0 (parNs r)).toNat).all fun e => ((parNs r).map .int).any fun y => deq y e) = true then some r else none
def readS (l : List Nat) : Option (List D) := if isStrg l = true then (partsOf l).bind stmtOf else none
end M
end
section
namespace M
open PySem PySem.Spec PyProof.Rows L2
def N_is_name : List Str := ["value"]
def c_is_name : IR := .seq (.ifS (.tOr (.tNot (.tV (.cal "isinstance" spIsi (.cons (.var 0) (.cons (.bty "str") .nil))))) (.tOne (.tNot (.chn .LtE .LtE (.con (.int 1)) (.cal "len" spLen (.cons (.var 0) .nil)) (.glb "LONGEST_NAME" (.int 8)))))) (.seq (.ret (.con (.bl false))) (.nil)) (.nil)) (.seq (.ret (.nod (fAllS "LETTERS") (eAllS "abcdefghijklmnopqrstuvwxyz") (.cons (.var 0) .nil))) (.nil))
def N_is_string : List Str := ["value"]
def c_is_string : IR := .seq (.ret (.andV (.cal "isinstance" spIsi (.cons (.var 0) (.cons (.bty "str") .nil))) (.andV (.cmp .LtE (.cal "len" spLen (.cons (.var 0) .nil)) (.glb "LONGEST_STRING" (.int 200))) (.one (.nod (fAllS "SIGNS") (eAllS " !\"#$&'()*+,-./0123456789:;<=>?@ABCDEFGHIJKLMNOPQRSTUVWXYZ[\\]^_`abcdefghijklmnopqrstuvwxyz{|}~") (.cons (.var 0) .nil)))))) (.nil)
def N_is_text : List Str := ["value"]
def c_is_text : IR := .seq (.ret (.andV (.cal "is_string" sp_is_string (.cons (.var 0) .nil)) (.andV (.cmp .LtE (.cal "len" spLen (.cons (.var 0) .nil)) (.glb "LONGEST_TEXT" (.int 40))) (.one (.cmp .NotIn (.con (.str "'")) (.var 0)))))) (.nil)
end M
end
section
namespace M
open PySem PySem.Spec PyProof.Rows L2
open SX (S S_len S_cat)
theorem tyName_isSome {d : D} {μ : Sto} (h : (tyName d μ).isSome = true) : ∃ a, tyName d μ = some a := Option.isSome_iff_exists.mp h
theorem tyName_str {d : D} {μ : Sto} (h : tyName d μ = some "str") : ∃ x, d = .str x := by
  unfold tyName at h
  split at h <;> first | (exact ⟨_, rfl⟩) | (simp at h; done) | skip
  split at h <;> simp at h
theorem w_is_name : ∀ ds μ Q QX, μ.wf → objBs μ.next ds = true → sp_is_name ds μ Q QX → ds.length = 1 ∧ wpS c_is_name (startE N_is_name ds) μ (outs μ.next Q QX) := by
  intro ds μ Q QX hw ho h
  unfold sp_is_name spB at h
  split at h
  · rename_i s
    obtain ⟨l, rfl⟩ := of_S s
    obtain ⟨h1, h2⟩ := h
    refine ⟨rfl, ?_⟩
    rw [S_cps] at h2
    have hq : finP μ.next Q (.bl (isName l)) μ := fin_same hw rfl h2
    simp [startE, wpS, wpT, wpE, wpA, wpI, wpG, wpGs, wpOpt, spLen, spIsi, spInt, spStr, spTup, spLst, spMax, spApp, spFind, spSplit, spJoin, spDget, tn_str, tn_int, tn_bl, tn_non, tn_tup, tn_lst, tn_scr, td_str, td_lst, isB, tys, truD, cmpD, binD, slD, ixD, outs, eAllS, eAllN, eMaxD, eGin, eGinT, eGix, eRse, eCal0, drf, sq_tup, sq_lst, sq_scr, sq_str, sq_int, sq_non, l_lst, l_scr, l_tup, lm_lst, lm_str, lm_int, lm_tup, lm_non, lm_bl, eqOk_str, eqOk_int, eqOk_non, deq_int, deq_str, two_le, isNonD, tysOf, c_is_name, N_is_name]
    refine ⟨by simpa using h1, ?_⟩
    rw [S_len] at *
    unfold isName at hq
    split
    · split
      · rename_i a b
        rw [show (decide (1 ≤ l.length) && decide (l.length ≤ 8) && l.all fun c => decide (c ∈ lettersL)) = false by simp; omega] at hq
        exact hq
      · rename_i a b
        rw [show (decide (1 ≤ l.length) && decide (l.length ≤ 8)) = true by simp; omega, Bool.true_and] at hq
        simpa [lettersL] using hq
    · rename_i a
      rw [show (decide (1 ≤ l.length) && decide (l.length ≤ 8) && l.all fun c => decide (c ∈ lettersL)) = false by simp; omega] at hq
      exact hq
  · rename_i d hd
    obtain ⟨h1, h2⟩ := h
    refine ⟨rfl, ?_⟩
    obtain ⟨a, ha⟩ := tyName_isSome h1
    have hne : a ≠ "str" := fun z => by
      subst z
      obtain ⟨x, rfl⟩ := tyName_str ha
      exact hd x rfl
    have hq : finP μ.next Q (.bl false) μ := fin_same hw rfl h2
    simp [startE, wpS, wpT, wpE, wpA, wpI, wpG, wpGs, wpOpt, spLen, spIsi, spInt, spStr, spTup, spLst, spMax, spApp, spFind, spSplit, spJoin, spDget, tn_str, tn_int, tn_bl, tn_non, tn_tup, tn_lst, tn_scr, td_str, td_lst, isB, tys, truD, cmpD, binD, slD, ixD, outs, eAllS, eAllN, eMaxD, eGin, eGinT, eGix, eRse, eCal0, drf, sq_tup, sq_lst, sq_scr, sq_str, sq_int, sq_non, l_lst, l_scr, l_tup, lm_lst, lm_str, lm_int, lm_tup, lm_non, lm_bl, eqOk_str, eqOk_int, eqOk_non, deq_int, deq_str, two_le, isNonD, tysOf, c_is_name, N_is_name, ha, hne, hq]
  · exact h.elim
end M
end
section
namespace M
open PySem PySem.Spec PyProof.Rows L2
open SX (S S_len S_cat)
theorem w_is_string : ∀ ds μ Q QX, μ.wf → objBs μ.next ds = true → sp_is_string ds μ Q QX → ds.length = 1 ∧ wpS c_is_string (startE N_is_string ds) μ (outs μ.next Q QX) := by
  intro ds μ Q QX hw ho h
  unfold sp_is_string spB at h
  split at h
  · rename_i s
    obtain ⟨l, rfl⟩ := of_S s
    obtain ⟨h1, h2⟩ := h
    refine ⟨rfl, ?_⟩
    rw [S_cps] at h2
    have hq : finP μ.next Q (.bl (isStrg l)) μ := fin_same hw rfl h2
    rw [S_len] at h1
    unfold isStrg at hq
    simp [startE, wpS, wpT, wpE, wpA, wpI, wpG, wpGs, wpOpt, spLen, spIsi, spInt, spStr, spTup, spLst, spMax, spApp, spFind, spSplit, spJoin, spDget, tn_str, tn_int, tn_bl, tn_non, tn_tup, tn_lst, tn_scr, td_str, td_lst, isB, tys, truD, cmpD, binD, slD, ixD, outs, eAllS, eAllN, eMaxD, eGin, eGinT, eGix, eRse, eCal0, drf, sq_tup, sq_lst, sq_scr, sq_str, sq_int, sq_non, l_lst, l_scr, l_tup, lm_lst, lm_str, lm_int, lm_tup, lm_non, lm_bl, eqOk_str, eqOk_int, eqOk_non, deq_int, deq_str, two_le, isNonD, tysOf, c_is_string, N_is_string, S_len, h1]
    by_cases h3 : l.length ≤ 200
    · rw [if_pos (by omega)]
      simpa [h3, signsL] using hq
    · rw [if_neg (by omega)]
      simpa [h3] using hq
  · rename_i d hd
    obtain ⟨h1, h2⟩ := h
    refine ⟨rfl, ?_⟩
    obtain ⟨a, ha⟩ := tyName_isSome h1
    have hne : a ≠ "str" := fun z => by
      subst z
      obtain ⟨x, rfl⟩ := tyName_str ha
      exact hd x rfl
    have hq : finP μ.next Q (.bl false) μ := fin_same hw rfl h2
    simp [startE, wpS, wpT, wpE, wpA, wpI, wpG, wpGs, wpOpt, spLen, spIsi, spInt, spStr, spTup, spLst, spMax, spApp, spFind, spSplit, spJoin, spDget, tn_str, tn_int, tn_bl, tn_non, tn_tup, tn_lst, tn_scr, td_str, td_lst, isB, tys, truD, cmpD, binD, slD, ixD, outs, eAllS, eAllN, eMaxD, eGin, eGinT, eGix, eRse, eCal0, drf, sq_tup, sq_lst, sq_scr, sq_str, sq_int, sq_non, l_lst, l_scr, l_tup, lm_lst, lm_str, lm_int, lm_tup, lm_non, lm_bl, eqOk_str, eqOk_int, eqOk_non, deq_int, deq_str, two_le, isNonD, tysOf, c_is_string, N_is_string, ha, hne, hq]
  · exact h.elim
theorem w_is_text : ∀ ds μ Q QX, μ.wf → objBs μ.next ds = true → sp_is_text ds μ Q QX → ds.length = 1 ∧ wpS c_is_text (startE N_is_text ds) μ (outs μ.next Q QX) := by
  intro ds μ Q QX hw ho h
  unfold sp_is_text spB at h
  split at h
  · rename_i s
    obtain ⟨l, rfl⟩ := of_S s
    obtain ⟨h1, h2⟩ := h
    refine ⟨rfl, ?_⟩
    rw [S_cps] at h2
    have hq : finP μ.next Q (.bl (isText l)) μ := fin_same hw rfl h2
    rw [S_len] at h1
    unfold isText at hq
    simp [startE, wpS, wpT, wpE, wpA, wpI, wpG, wpGs, wpOpt, spLen, spIsi, spInt, spStr, spTup, spLst, spMax, spApp, spFind, spSplit, spJoin, spDget, tn_str, tn_int, tn_bl, tn_non, tn_tup, tn_lst, tn_scr, td_str, td_lst, isB, tys, truD, cmpD, binD, slD, ixD, outs, eAllS, eAllN, eMaxD, eGin, eGinT, eGix, eRse, eCal0, drf, sq_tup, sq_lst, sq_scr, sq_str, sq_int, sq_non, l_lst, l_scr, l_tup, lm_lst, lm_str, lm_int, lm_tup, lm_non, lm_bl, eqOk_str, eqOk_int, eqOk_non, deq_int, deq_str, two_le, isNonD, tysOf, c_is_text, N_is_text, S_len, h1, sp_is_string, spB, S_cps]
    by_cases h4 : isStrg l = true
    · rw [if_pos h4]
      by_cases h3 : l.length ≤ 40
      · rw [if_pos (by omega)]
        rw [h4] at hq
        simp only [h3, decide_true, Bool.true_and] at hq
        exact hq
      · rw [if_neg (by omega)]
        simpa [h3] using hq
    · rw [if_neg h4]
      rw [Bool.not_eq_true] at h4
      simpa [h4] using hq
  · rename_i d hd
    obtain ⟨h1, h2⟩ := h
    refine ⟨rfl, ?_⟩
    have hq : finP μ.next Q (.bl false) μ := fin_same hw rfl h2
    simp [startE, wpS, wpT, wpE, wpA, wpI, wpG, wpGs, wpOpt, spLen, spIsi, spInt, spStr, spTup, spLst, spMax, spApp, spFind, spSplit, spJoin, spDget, tn_str, tn_int, tn_bl, tn_non, tn_tup, tn_lst, tn_scr, td_str, td_lst, isB, tys, truD, cmpD, binD, slD, ixD, outs, eAllS, eAllN, eMaxD, eGin, eGinT, eGix, eRse, eCal0, drf, sq_tup, sq_lst, sq_scr, sq_str, sq_int, sq_non, l_lst, l_scr, l_tup, lm_lst, lm_str, lm_int, lm_tup, lm_non, lm_bl, eqOk_str, eqOk_int, eqOk_non, deq_int, deq_str, two_le, isNonD, tysOf, c_is_text, N_is_text]
    unfold sp_is_string spB
    split
    · rename_i x hx
      cases hx
      exact (hd x rfl).elim
    · rename_i d' hx
      cases hx
      simp [h1, hq]
    · rename_i h3 h4
      exact (h4 d rfl).elim
  · exact h.elim
end M
end
section
namespace M
open PySem PySem.Spec PyProof.Rows L2
open SX (S S_len S_cat)
theorem lit_quote : (Str.ofString "'") = S [39] := by decide +kernel
theorem lit_dollar : (Str.ofString "$") = S [36] := by decide +kernel
theorem lit_space : (Str.ofString " ") = S [32] := by decide +kernel
theorem lit_empty : (Str.ofString "") = S [] := by decide +kernel
end M
end
section
namespace M
open PySem PySem.Spec PyProof.Rows L2
open SX (S S_len S_cat)
theorem fp_cons {c : Nat} {r : List Nat} : fp (c :: r) = if c = 39 then (if 39 ∈ r then 39 :: (r.takeWhile (fun x => decide (x ≠ 39)) ++ [39]) else []) else (c :: r).takeWhile fun x => decide (x ≠ 32) := rfl
end M
end
section
namespace M
open PySem PySem.Spec PyProof.Rows L2
open SX (S S_len S_cat)
section
variable {α β : Type}
def mapK (f : α → D) (l : List (Str × α)) : List (Key × D) := l.map fun t => (.inr t.1, f t.2)
end
abbrev Row := Key × Key
def rowL (r : Row) : List Key := [r.1, r.2]
def tupK (r : List Key) : D := .tup (r.map keyD)
def rowD (r : Row) : D := tupK (rowL r)
abbrev Store := List (Str × List Row)
instance decStore : DecidableEq Store := inferInstance
instance decNamed : DecidableEq (Str × Store) := fun a b => instDecidableEqProd a b
instance decSaves : DecidableEq (List (Str × Store)) := fun a b => instDecidableEqList a b
def tabD (rs : List Row) : D := .tup (rs.map rowD)
def stoK (s : Store) : List (Key × D) := mapK tabD s
def ltK : Key → Key → Bool
  | .inl i, .inl j => decide (i < j)
  | .inl _, .inr _ => true
  | .inr _, .inl _ => false
  | .inr a, .inr b => decide (a.cps.toList < b.cps.toList)
def Rising (rs : List Row) : Prop := rs.Pairwise fun a b => ltK a.1 b.1 = true
inductive Ans where
  | wrong (w : Str) | complete (n : Int) | rows (l : List (List Key))
  deriving DecidableEq
inductive Rp where
  | wrong (w : Str) | complete (n : Int) | rows (l : List (List Key)) (more : Bool) | closed | bound | prepared (n : Int) | skipped
  deriving DecidableEq
def rsD (l : List (List Key)) : D := .lst (l.map tupK)
def repD : Rp → D
  | .wrong w => .tup [.str "wrong", .str w]
  | .complete n => .tup [.str "complete", .int n]
  | .rows l m => .tup [.str "rows", rsD l, .bl m]
  | .closed => .tup [.str "closed"]
  | .bound => .tup [.str "bound"]
  | .prepared n => .tup [.str "prepared", .int n]
  | .skipped => .tup [.str "skipped"]
inductive Tm where
  | num (i : Int) | txt (l : List Nat) | par (n : Int)
  deriving DecidableEq
def tmD : Tm → D
  | .num i => .int i
  | .txt l => txtD l
  | .par n => parD n
inductive Stm where
  | bare (w : Str) | on (w n : Str) (ts : List Tm)
  deriving DecidableEq
def stmL : Stm → List D
  | .bare w => [.str w]
  | .on w n ts => .str w :: .str n :: ts.map tmD
def stmD (st : Stm) : D := .tup (stmL st)
def parA : Tm → Option Int
  | .par n => some n
  | _ => none
def parsS : Stm → List Int
  | .bare _ => []
  | .on _ _ ts => ts.filterMap parA
def needS (st : Stm) : Int := maxI 0 (parsS st)
def stmOkA : Stm → Prop
  | .bare w => w = "begin" ∨ w = "commit" ∨ w = "rollback"
  | .on w _ ts => (∀ t ∈ ts, ∀ n, parA t = some n → 1 ≤ n ∧ n ≤ 4) ∧
      ((w = "create" ∨ w = "drop" ∨ w = "total" ∨ w = "save" ∨ w = "undo" ∨ w = "scan") ∧ ts.length = 0 ∨ (w = "delete" ∨ w = "get") ∧ ts.length = 1 ∨ (w = "put" ∨ w = "scan") ∧ ts.length = 2)
structure CS where
  store : Store
  base : Store
  mode : Str
  saves : List (Str × Store)
instance : DecidableEq CS := fun a b => if h : a.store = b.store ∧ a.base = b.base ∧ a.mode = b.mode ∧ a.saves = b.saves then isTrue (by cases a; cases b; simp_all) else isFalse fun e => h (by rw [e]; exact ⟨rfl, rfl, rfl, rfl⟩)
structure Port where
  st : Stm
  vals : List Key
  rows : Option (List (List Key))
  done : Bool
instance : DecidableEq Port := fun a b => if h : a.st = b.st ∧ a.vals = b.vals ∧ a.rows = b.rows ∧ a.done = b.done then isTrue (by cases a; cases b; simp_all) else isFalse fun e => h (by rw [e]; exact ⟨rfl, rfl, rfl, rfl⟩)
structure SS where
  c : CS
  stms : List (Str × Stm)
  ports : List (Str × Port)
instance : DecidableEq SS := fun a b => if h : a.c = b.c ∧ a.stms = b.stms ∧ a.ports = b.ports then isTrue (by cases a; cases b; simp_all) else isFalse fun e => h (by rw [e]; exact ⟨rfl, rfl, rfl⟩)
inductive Cmd where
  | prepare (n z : Str) | bind (p n : Str) (vs : List Key) | run (n : Str) (m : Int) | forget (n : Str) | close (n : Str)
end M
end
section
namespace M
open PySem PySem.Spec PyProof.Rows L2
abbrev Cells := List (Nat × Cell)
structure HW (μ : Sto) (L : Cells) : Prop where
  wf : μ.wf
  nd : (L.map (·.1)).Nodup
  at_ : ∀ p ∈ L, μ.cell p.1 = some p.2
theorem HW.get {μ : Sto} {L : Cells} (h : HW μ L) {k : Nat} {c : Cell} (m : (k, c) ∈ L) : μ.cell k = some c := h.at_ _ m
theorem HW.lt {μ : Sto} {L : Cells} (h : HW μ L) {k : Nat} {c : Cell} (m : (k, c) ∈ L) : k < μ.next := (h.wf _ _ (h.at_ _ m)).1
theorem HW.sub {μ : Sto} {L L' : Cells} (h : HW μ L) (s : L'.Sublist L) : HW μ L' := ⟨h.wf, (s.map _).nodup h.nd, fun p m => h.at_ p (s.subset m)⟩
theorem HW.perm {μ : Sto} {L L' : Cells} (h : HW μ L) (s : L.Perm L') : HW μ L' := ⟨h.wf, (s.map _).nodup_iff.mp h.nd, fun p m => h.at_ p (s.mem_iff.mpr m)⟩
theorem wf_put {μ : Sto} {k : Nat} {c : Cell} (h : μ.wf) (hk : k < μ.next) (hc : cellB μ.next c = true) : (μ.put k c).wf := fun j d e => by
  by_cases hj : j = k
  · subst hj
    rw [Sto.put_same] at e
    cases e
    exact ⟨hk, hc⟩
  · rw [Sto.put_ne hj] at e
    exact h j d e
mutual
theorem objB_up {n m : Nat} (h : n ≤ m) : ∀ {d : D}, objB n d = true → objB m d = true
  | .non, _ | .bl _, _ | .int _, _ | .str _, _ | .ty _, _ | .fn _, _ => rfl
  | .tup _, e => objBs_up h e
  | .lst _, e => objBs_up h e
  | .scr _, e => objBs_up h e
  | .obj _, e => decide_eq_true (Nat.lt_of_lt_of_le (of_decide_eq_true e) h)
theorem objBs_up {n m : Nat} (h : n ≤ m) : ∀ {ds : List D}, objBs n ds = true → objBs m ds = true
  | [], _ => rfl
  | _ :: _, e => by
    have e : (objB n _ && objBs n _) = true := e
    rw [Bool.and_eq_true] at e
    show (objB m _ && objBs m _) = true
    rw [objB_up h e.1, objBs_up h e.2]
    rfl
end
theorem cellB_up {n m : Nat} (h : n ≤ m) {c : Cell} (e : cellB n c = true) : cellB m c = true := by
  cases c with
  | lst ds => exact objBs_up h (ds := ds) e
  | dct kvs => exact objBs_up h (ds := kvs.map Prod.snd) e
  | lck kvs _ _ => exact objBs_up h (ds := kvs.map Prod.snd) e
  | ins _ fs => exact objBs_up h (ds := fs.map Prod.snd) e
theorem wf_new {μ : Sto} {c : Cell} (h : μ.wf) (hc : cellB (μ.next + 1) c = true) : (μ.new c).wf := fun j d e => by
  by_cases hj : j = μ.next
  · subst hj
    rw [Sto.new_same] at e
    cases e
    exact ⟨Nat.lt_succ_self _, hc⟩
  · rw [Sto.new_ne hj] at e
    exact ⟨Nat.lt_succ_of_lt (h j d e).1, cellB_up (Nat.le_succ _) (h j d e).2⟩
theorem HW.put {μ : Sto} {A B : Cells} {k : Nat} {c c' : Cell} (h : HW μ (A ++ (k, c) :: B)) (hc : cellB μ.next c' = true) : HW (μ.put k c') (A ++ (k, c') :: B) := by
  have hk : k < μ.next := h.lt (c := c) (by simp)
  have nd := h.nd
  rw [List.map_append, List.map_cons, List.nodup_append] at nd
  obtain ⟨_, n2, n3⟩ := nd
  have n2 : k ∉ B.map (·.1) := (List.nodup_cons.mp n2).1
  refine ⟨wf_put h.wf hk hc, by have := h.nd; simpa using this, fun p m => ?_⟩
  rcases List.mem_append.mp m with m | m
  · rw [Sto.put_ne fun e => n3 p.1 (List.mem_map_of_mem m) k (by simp) e]
    exact h.at_ p (by simp [m])
  · rcases List.mem_cons.mp m with rfl | m
    · exact Sto.put_same
    · rw [Sto.put_ne fun e => n2 (by rw [← e]; exact List.mem_map_of_mem m)]
      exact h.at_ p (by simp [m])
theorem HW.new {μ : Sto} {A B : Cells} {c : Cell} (h : HW μ (A ++ B)) (hc : cellB (μ.next + 1) c = true) : HW (μ.new c) (A ++ (μ.next, c) :: B) := by
  have nn : ∀ p ∈ A ++ B, p.1 ≠ μ.next := fun p m => Nat.ne_of_lt (h.wf _ _ (h.at_ p m)).1
  have base : HW (μ.new c) ((μ.next, c) :: (A ++ B)) := by
    refine ⟨wf_new h.wf hc, ?_, fun p m => ?_⟩
    · rw [List.map_cons, List.nodup_cons]
      refine ⟨fun z => ?_, h.nd⟩
      obtain ⟨p, m, e⟩ := List.mem_map.mp z
      exact nn p m e
    · rcases List.mem_cons.mp m with rfl | m
      · exact Sto.new_same
      · rw [Sto.new_ne (nn p m)]
        exact h.at_ p m
  exact base.perm List.perm_middle.symm
theorem HW.drop {μ : Sto} {A B : Cells} {p : Nat × Cell} (h : HW μ (A ++ p :: B)) : HW μ (A ++ B) := h.sub (List.Sublist.append (List.Sublist.refl _) (List.sublist_cons_self _ _))
theorem fin_all {n : Nat} {μ : Sto} {Q : Post} {d : D} (hw : μ.wf) (hn : n ≤ μ.next) (ho : objB μ.next d = true) (h : Q d μ) : finP n Q d μ := ⟨μ, hn, part_self hw, ho, h⟩
theorem keyD_B (n : Nat) (k : Key) : objB n (keyD k) = true := by cases k <;> rfl
theorem objBs_all {n : Nat} : ∀ {ds : List D}, (∀ d ∈ ds, objB n d = true) → objBs n ds = true
  | [], _ => rfl
  | d :: ds, h => by
    show (objB n d && objBs n ds) = true
    rw [h d (by simp), objBs_all fun x m => h x (by simp [m])]
    rfl
theorem objBs_map {α : Type} {n : Nat} {f : α → D} {l : List α} (h : ∀ x ∈ l, objB n (f x) = true) : objBs n (l.map f) = true := objBs_all fun d m => by
  obtain ⟨x, hx, rfl⟩ := List.mem_map.mp m
  exact h x hx
theorem tupK_B (n : Nat) (r : List Key) : objB n (tupK r) = true := objBs_map fun k _ => keyD_B n k
theorem rsD_B (n : Nat) (l : List (List Key)) : objB n (rsD l) = true := objBs_map fun r _ => tupK_B n _
theorem repD_B (n : Nat) (a : Rp) : objB n (repD a) = true := by
  cases a with
  | rows l m =>
    show (true && (objB n (rsD l) && (true && true))) = true
    rw [rsD_B]
    rfl
  | _ => rfl
end M
end
section
namespace M
open PySem PySem.Spec PyProof.Rows L2
def All2 {α β : Type} (R : α → β → Prop) : List α → List β → Prop
  | [], [] => True
  | a :: l, b :: m => R a b ∧ All2 R l m
  | _, _ => False
def spD (sp : Spec) (dd : List D) : Spec := fun ds μ Q E => sp (ds ++ dd) μ Q E
def SeqOf (d : D) (ds : List D) : Prop := d = .tup ds ∨ d = .lst ds
def stoOk (s : Store) : Prop := s.length ≤ 4 ∧ ∀ t ∈ s, t.2.length ≤ 20 ∧ Rising t.2
structure RS where
  (a b c d e : Nat)
  store : Store
  base : Store
  mode : Str
  saves : List (Str × Nat × Store)
  stms : List (Str × Stm)
  ports : List (Str × Nat × Port)
def RS.core (R : RS) : CS := ⟨R.store, R.base, R.mode, R.saves.map fun t => (t.1, t.2.2)⟩
def RS.abs (R : RS) : SS := ⟨R.core, R.stms, R.ports.map fun t => (t.1, t.2.2)⟩
def savD (t : Str × Nat × Store) : D := .tup [.str t.1, .obj t.2.1]
def insS (R : RS) : Cell := .ins 11 [("_store", .obj R.a), ("_base", .obj R.b), ("_state", .str R.mode), ("_savepoints", .obj R.c), ("_statements", .obj R.d), ("_portals", .obj R.e)]
def savesC (R : RS) : Cells := R.saves.map fun t => (t.2.1, .dct (stoK t.2.2))
def coreC (j : Nat) (R : RS) : Cells := (j, insS R) :: (R.a, .dct (stoK R.store)) :: (R.b, .dct (stoK R.base)) :: (R.c, .lst (R.saves.map savD)) :: (R.d, .dct (mapK stmD R.stms)) :: (R.e, .dct (mapK (fun t : Nat × Port => .obj t.1) R.ports)) :: savesC R
def okC (c : CS) : Prop := stoOk c.store ∧ stoOk c.base ∧ (c.mode = "none" ∨ c.mode = "open" ∨ c.mode = "failed") ∧ c.saves.length ≤ 10 ∧ ∀ t ∈ c.saves, stoOk t.2
def okP (p : Port) : Prop := stmOkA p.st ∧ (p.vals.length : Int) = needS p.st ∧ ∀ l, p.rows = some l → l.length ≤ 20
structure okSS (s : SS) : Prop where
  c : okC s.c
  sl : s.stms.length ≤ 8
  st : ∀ t ∈ s.stms, stmOkA t.2
  pl : s.ports.length ≤ 8
  pn : (s.ports.map (·.1)).Nodup
  po : ∀ t ∈ s.ports, okP t.2
def relC (R R' : RS) (r : CS × Bool × Ans) : Prop := R'.core = r.1 ∧ R'.stms = R.stms ∧ R'.ports = if r.2.1 = true then [] else R.ports
def SeqC (F : Cells) (d : D) (ds : List D) : Prop := SeqOf d ds ∨ ∃ k, d = .obj k ∧ (k, Cell.lst ds) ∈ F
end M
end
section
namespace M
open PySem PySem.Spec PyProof.Rows L2
open SX (S S_len S_cat)
theorem loopC_sel {α : Type} {turn : D → Sto → (Option D → Sto → Prop) → Prop} {gd : Sto → Prop} {fin : List D → Sto → Prop} (f g : α → D) (p : α → Bool) {μ : Sto} (hg : gd μ) {l : List α} (h : ∀ x ∈ l, ∀ N : Option D → Sto → Prop, N (if p x = true then some (g x) else none) μ → turn (f x) μ N) (hl : l.length ≤ sizeLine) (hf : fin ((l.filter p).map g) μ) : loopC turn gd fin (l.map f) [] μ := by
  have : ∀ (l : List α) (acc : List D), (∀ x ∈ l, ∀ N : Option D → Sto → Prop, N (if p x = true then some (g x) else none) μ → turn (f x) μ N) → acc.length + l.length ≤ sizeLine → fin (acc ++ (l.filter p).map g) μ → loopC turn gd fin (l.map f) acc μ := by
    intro l
    induction l with
    | nil =>
      intro acc _ _ hf
      exact ⟨hg, by simpa using hf⟩
    | cons x l ih =>
      intro acc h hl hf
      rw [List.length_cons] at hl
      refine ⟨hg, h x (by simp) _ ?_⟩
      rw [List.filter_cons] at hf
      by_cases hp : p x = true
      · rw [if_pos hp] at hf ⊢
        exact ⟨by omega, ih (acc ++ [g x]) (fun y hy => h y (by simp [hy])) (by rw [List.length_append, List.length_singleton]; omega) (by simpa using hf)⟩
      · rw [if_neg hp] at hf ⊢
        exact ih acc (fun y hy => h y (by simp [hy])) (by omega) hf
  exact this l [] h (by simpa using hl) (by simpa using hf)
theorem sz1000 : (1000 : Nat) ≤ sizeLine := by rw [sizeLine_eq]; omega
theorem cmp_eq_int {a b : Int} {μ : Sto} {Q : Bool → Prop} : cmpD .Eq (.int a) (.int b) μ Q = Q (decide (a = b)) := by
  simp [cmpD, drf, asLM, eqOk_int, deq_int]
theorem bin_addL {xs ys : List D} {μ : Sto} {Q : Post} : binD .Add (.lst xs) (.lst ys) μ Q = (xs.length + ys.length ≤ sizeLine ∧ Q (.lst (xs ++ ys)) μ) := rfl
end M
end
section
namespace M
open PySem PySem.Spec PyProof.Rows L2
open SX (S S_len S_cat)
theorem cmp_eq_str {a b : Str} {μ : Sto} {Q : Bool → Prop} : cmpD .Eq (.str a) (.str b) μ Q = Q (decide (a = b)) := by
  simp [cmpD, drf, asLM, eqOk_str, deq_str]
theorem cmp_ne_str {a b : Str} {μ : Sto} {Q : Bool → Prop} : cmpD .NotEq (.str a) (.str b) μ Q = Q (!decide (a = b)) := by
  simp [cmpD, drf, asLM, eqOk_str, deq_str]
end M
end
section
namespace M
open PySem PySem.Spec PyProof.Rows L2
open SX (S S_len S_cat)
theorem All2.len {α β : Type} {R : α → β → Prop} : ∀ {l : List α} {m : List β}, All2 R l m → l.length = m.length
  | [], [], _ => rfl
  | _ :: _, _ :: _, ⟨_, h⟩ => by rw [List.length_cons, List.length_cons, All2.len h]
theorem All2.map {α β γ : Type} {R : α → β → Prop} {f : α → γ} {g : β → γ} (h : ∀ a b, R a b → f a = g b) : ∀ {l : List α} {m : List β}, All2 R l m → l.map f = m.map g
  | [], [], _ => rfl
  | a :: _, b :: _, ⟨r, t⟩ => by rw [List.map_cons, List.map_cons, h a b r, All2.map h t]
end M
end
section
namespace M
open PySem PySem.Spec PyProof.Rows L2
open SX (S S_len S_cat)
section
variable {μ : Sto} {j : Nat} {R : RS} {F : Cells} {Q : Post} {E : XPost} {δ : Env} {O : Outs}
structure CoreAt (μ : Sto) (j : Nat) (R : RS) : Prop where
  j : μ.cell j = some (insS R)
  a : μ.cell R.a = some (.dct (stoK R.store))
  b : μ.cell R.b = some (.dct (stoK R.base))
  c : μ.cell R.c = some (.lst (R.saves.map savD))
  d : μ.cell R.d = some (.dct (mapK stmD R.stms))
  e : μ.cell R.e = some (.dct (mapK (fun t : Nat × Port => .obj t.1) R.ports))
  s : ∀ t ∈ R.saves, μ.cell t.2.1 = some (.dct (stoK t.2.2))
theorem HW.core (h : HW μ (coreC j R ++ F)) : CoreAt μ j R :=
  ⟨h.get (by simp [coreC]), h.get (by simp [coreC]), h.get (by simp [coreC]), h.get (by simp [coreC]), h.get (by simp [coreC]), h.get (by simp [coreC]), fun t m => h.get (List.mem_append_left _ (by
    unfold coreC savesC
    simp only [List.mem_cons]
    exact .inr (.inr (.inr (.inr (.inr (.inr (List.mem_map.mpr ⟨t, m, rfl⟩))))))))⟩
theorem fl_gen {f : Str} {v : D} {c : Nat} {fs : List (Str × D)} (h : μ.cell j = some (.ins c fs)) (hv : fs.lookup f = some v) : eFld [c] f δ [.obj j] μ Q E = Q v μ := by simp [eFld, fldD, insD, h, hv]
theorem relC.self {a : Ans} : relC R R (R.core, false, a) := ⟨rfl, rfl, rfl⟩
end
section
variable {μ : Sto} {j : Nat} {R : RS} {F : Cells} {Q : Post} {E : XPost}
theorem len_obj {k : Nat} {ds : List D} (h : μ.cell k = some (.lst ds)) : spLen [.obj k] μ Q E = Q (.int ds.length) μ := by simp [spLen, sq_obj h]
theorem app_obj {k : Nat} {ds : List D} {x : D} (h : μ.cell k = some (.lst ds)) (hl : ds.length < sizeLine) : spApp [.obj k, x] μ Q E = Q .non (μ.put k (.lst (ds ++ [x]))) := by simp [spApp, h, hl]
end
end M
end
section
namespace M
open PySem PySem.Spec PyProof.Rows L2
open SX (S S_len S_cat)
theorem ixt_0 {x : D} {l : List D} {μ : Sto} {Q : Post} : ixD (.tup (x :: l)) (.int 0) μ Q = Q x μ := by simp [ixD, sq_tup, atI_zero]
theorem ixt_1 {x y : D} {l : List D} {μ : Sto} {Q : Post} : ixD (.tup (x :: y :: l)) (.int 1) μ Q = Q y μ := by simp [ixD, sq_tup, atI_one]
end M
end
section
namespace M
open PySem PySem.Spec PyProof.Rows L2
open SX (S S_len S_cat)
section
variable {μ μ' : Sto} {j x : Nat} {R R' : RS} {F : Cells} {Q : Post} {E : XPost} {δ : Env} {O : Outs} {p : Port}
theorem three_le : 3 ≤ sizeLine := by rw [sizeLine_eq]; omega
end
end M
end
section
namespace M
open PySem PySem.Spec PyProof.Rows L2
open SX (S S_len S_cat)
theorem ixt_2 {x y z : D} {l : List D} {μ : Sto} {Q : Post} : ixD (.tup (x :: y :: z :: l)) (.int 2) μ Q = Q z μ := by
  have : atI (x :: y :: z :: l) 2 = some z := atI_nat' (x :: y :: z :: l) 2
  simp [ixD, sq_tup, this]
theorem ixt_3 {x y z u : D} {l : List D} {μ : Sto} {Q : Post} : ixD (.tup (x :: y :: z :: u :: l)) (.int 3) μ Q = Q u μ := by
  have : atI (x :: y :: z :: u :: l) 3 = some u := atI_nat' (x :: y :: z :: u :: l) 3
  simp [ixD, sq_tup, this]
end M
end
section
namespace M
open PySem PySem.Spec PyProof.Rows L2
open SX (S S_len S_cat)
theorem okSS.core {s : SS} {c : CS} {b : Bool} (h : okSS s) (hc : okC c) : okSS { s with c := c, ports := if b = true then [] else s.ports } := by
  cases b with
  | true => exact ⟨hc, h.sl, h.st, Nat.zero_le _, List.nodup_nil, fun t m => by cases m⟩
  | false => exact ⟨hc, h.sl, h.st, h.pl, h.pn, h.po⟩
end M
end
section
namespace M
open PySem PySem.Spec PyProof.Rows L2
open SX (S S_len S_cat)
theorem All2.at {α β : Type} {Rr : α → β → Prop} : ∀ {l : List α} {m : List β} {i : Nat} {a : α}, All2 Rr l m → l[i]? = some a → ∃ b, m[i]? = some b ∧ Rr a b
  | [], [], i, a, _, h => by cases h
  | x :: l, y :: m, 0, a, ⟨r, _⟩, h => ⟨y, rfl, by cases h; exact r⟩
  | x :: l, y :: m, i + 1, a, ⟨_, t⟩, h => All2.at (l := l) (m := m) (i := i) t h
theorem wf_del {μ : Sto} {k : Nat} (h : μ.wf) : (μ.del k).wf := fun j d e => by
  by_cases hj : j = k
  · subst hj
    rw [Sto.del_same] at e
    cases e
  · rw [Sto.del_ne hj] at e
    exact h j d e
theorem HW.del {μ : Sto} {A B : Cells} {k : Nat} {c : Cell} (h : HW μ (A ++ (k, c) :: B)) : HW (μ.del k) (A ++ B) := by
  have h2 := h.drop
  refine ⟨wf_del h.wf, h2.nd, fun p m => ?_⟩
  have nd := h.nd
  rw [(List.perm_middle.map _).nodup_iff, List.map_cons, List.nodup_cons] at nd
  rw [Sto.del_ne fun e => nd.1 (List.mem_map.mpr ⟨p, m, e⟩)]
  exact h2.at_ p m
end M
end
section
namespace M
open PySem PySem.Spec PyProof.Rows L2
def cmdD : Cmd → D
  | .prepare n z => .tup [.str "prepare", .str n, .str z]
  | .bind p n vs => .tup [.str "bind", .str p, .str n, tupK vs]
  | .run n m => .tup [.str "run", .str n, .int m]
  | .forget n => .tup [.str "forget", .str n]
  | .close n => .tup [.str "close", .str n]
def cmdsD (cs : List Cmd) : D := .lst (cs.map cmdD)
end M
end
section
namespace M
open PySem PySem.Spec PyProof.Rows L2
theorem HW.none {μ : Sto} (h : μ.wf) : HW μ [] := ⟨h, List.nodup_nil, fun p m => by cases m⟩
end M
end
section
namespace M
open PySem PySem.Spec PyProof.Rows L2
section
variable {B : Bs} {T : List Addr} {cls : Nat → Addr} {k : Nat} {cd : Prop} {X : Cx} {Wx : WX}
def spMin2 : Spec := fun ds μ Q _ => match ds with
  | [.int i, .int j] => Q (.int (if j < i then j else i)) μ
  | _ => False
theorem c_min2 (hm : B.mg "min" = none) : CalC B T cls k "min" spMin2 := by
  refine c_bi hm (by decide) (by decide) (show bootBuiltins "min" = some (.builtin "min") by decide +kernel) (.inl ⟨_, rfl⟩) (fun _ _ _ _ h => h) fun X hB hc hr pins s σ S us vs ds QM Q I r R rr hw hq => ?_
  unfold spMin2 at hw
  split at hw
  · rename_i i j
    obtain ⟨x, y, rfl, q1, q2⟩ := Reps.inv2 rr
    exact call_min2 hc pins s σ S.H _ us Q I r ⟨i, j, by rw [show x = _ from q1, show y = _ from q2], hq S (.int _) _ (.refl _) R rfl hw⟩
  · exact hw.elim
def fSlL : XF := fun _ _ _ e => match e with
  | .Subscript a (.Slice (some lo) none none _) _ => if isStar a = false ∧ isStar lo = false then some [a, lo] else none
  | _ => none
def eSlL : EvE := fun _ ds μ Q _ => match ds with
  | [d, .int h] => match asL d μ with
    | some xs => Q (.obj μ.next) (μ.new (.lst (cutD xs (some h) none)))
    | none => False
  | _ => False
def RSdL (W : Wd) : V → Option Int → Option Int → Hp → VK → Prop := fun x lo hi H Q => ∃ S d h QM, S.H = H ∧ Rl W S ∧ Rep W.K S.vw d x ∧ lo = some h ∧ hi = none ∧ eSlL [] [d, .int h] S.μ QM (fun _ _ => False) ∧ After W S QM Q
theorem slL_ok : SlR X (RSdL (wd X T cls)) := by
  intro pins s σ _ x v vl vu lo hi sl Q I rx hs pl pu h0
  obtain ⟨S, dx, h, QM, rfl, R, hx, rfl, rfl, hb, hq⟩ := h0
  unfold eSlL at hb
  dsimp only at hb
  split at hb
  · rename_i ds e
    obtain ⟨a, vs, e1, g1, q1⟩ := asL_rep R hx e
    exact sl_list pins s σ _ x v vl vu _ _ sl Q I rx hs pl pu ⟨a, vs, e1, g1, new_lst R (reps_cut q1) hb hq⟩
  · exact hb.elim
theorem n_slL : NodOk B T cls k cd fSlL eSlL := by
  intro X top Wx e es as S hf hp
  unfold fSlL at hf
  split at hf
  · rename_i a lo p2 pos
    split at hf
    · rename_i hst
      cases hf
      obtain ⟨ca, cb, rfl, _, ha, _, hb⟩ := hp.two
      refine PE.weak (pe_slice (slL_ok (T := T) (cls := cls)) ha (po_some hb) po_none) fun σ H Q h => ?_
      obtain ⟨S0, δ, QM, QX, rfl, R, hE, hw, hq, hx⟩ := h
      simp only [wpE, wpA] at hw
      refine ⟨S0, δ, _, QX, rfl, R, hE, hw, fun S1 d1 v1 l1 R1 r1 w1 => ⟨S1, δ, _, QX, rfl, R1, hE.mono l1.1, w1, fun S2 d2 v2 l2 R2 r2 w2 => ?_, hx.le l1⟩, hx⟩
      have w3 := w2
      dsimp only [eSlL] at w2
      split at w2
      · rename_i z h hz
        cases hz
        obtain rfl : v2 = V.int h := r2
        exact ⟨h, rfl, S2, d1, h, QM, rfl, R2, r1.mono l2.1, rfl, rfl, w3, hq.le (l1.trans l2)⟩
      · exact w2.elim
    · cases hf
  · cases hf
def fMulL : XF := fun _ _ _ e => match e with
  | .BinOp a .Mult b _ => if isStar a = false ∧ isStar b = false then some [a, b] else none
  | _ => none
def eMulL : EvE := fun _ ds μ Q _ => match ds with
  | [.lst xs, .int n] => -(2 ^ 63) ≤ n ∧ n < 2 ^ 63 ∧ xs.length * n.toNat ≤ sizeLine ∧ Q (.lst (List.replicate n.toNat xs).flatten) μ
  | _ => False
theorem reps_rep {K : PySem.W.Frag} {w : Vw} {ds : List D} {xs : List V} (h : Reps K w ds xs) : ∀ n : Nat, Reps K w (List.replicate n ds).flatten (List.replicate n xs).flatten
  | 0 => rfl
  | n + 1 => by
    rw [List.replicate_succ, List.replicate_succ, List.flatten_cons, List.flatten_cons]
    exact h.append (reps_rep h n)
def R2u (W : Wd) : R2 := fun x y H Q => ∃ S dx dy QM, S.H = H ∧ Rl W S ∧ Rep W.K S.vw dx x ∧ Rep W.K S.vw dy y ∧ eMulL [] [dx, dy] S.μ QM (fun _ _ => False) ∧ After W S QM Q
theorem mulL_ok : OpR X (binaryOp .Mult) (R2u (wd X T cls)) := by
  intro pins s σ _ x y v u Q I rx ry h0
  obtain ⟨S, dx, dy, QM, rfl, R, hx, hy, hb, hq⟩ := h0
  unfold eMulL at hb
  split at hb
  · rename_i xs n hz
    cases hz
    obtain ⟨b1, b2, b3, b4⟩ := hb
    obtain ⟨a, vx, r1, g1, q1⟩ := hx
    obtain rfl : y = V.int n := hy
    exact op_rep pins s σ _ x (.int n) v u Q I rx ry ⟨a, n, vx, r1, rfl, hid_ex g1, b1, b2, by rw [q1.length]; exact b3, fresh_lst R (reps_rep q1 _) b4 hq⟩
  · exact hb.elim
theorem n_mulL : NodOk B T cls k cd fMulL eMulL := by
  intro X top Wx e es as S hf hp
  unfold fMulL at hf
  split at hf
  · rename_i a b pos
    split at hf
    · rename_i hst
      cases hf
      obtain ⟨ca, cb, rfl, _, ha, _, hb⟩ := hp.two
      refine PE.weak (pe_op (mulL_ok (T := T) (cls := cls)) ha hb) fun σ H Q h => ?_
      obtain ⟨S0, δ, QM, QX, rfl, R, hE, hw, hq, hx⟩ := h
      simp only [wpE, wpA] at hw
      exact ⟨S0, δ, _, QX, rfl, R, hE, hw, fun S1 d1 v1 l1 R1 r1 w1 => ⟨S1, δ, _, QX, rfl, R1, hE.mono l1.1, w1, fun S2 d2 v2 l2 R2 r2 w2 => ⟨S2, d1, d2, QM, rfl, R2, r1.mono l2.1, r2, w2, hq.le (l1.trans l2)⟩, hx.le l1⟩, hx⟩
    · cases hf
  · cases hf
end
end M
end
section
namespace M
open PySem PySem.Spec PyProof.Rows L2
open SX (S S_len S_cat)
def intIn (d : D) (lo hi : Int) : Bool := match d with
  | .int i => decide (lo ≤ i) && decide (i ≤ hi)
  | _ => false
def sp_is_integer : Spec := fun ds μ Q _ => match ds with
  | [d, .int lo, .int hi] => (tyName d μ).isSome = true ∧ Q (.bl (intIn d lo hi)) μ
  | _ => False
def isVal (d : D) : Bool := intIn d (-2147483648) 2147483647 || match d with
  | .str x => isText x.cps.toList
  | _ => false
def sp_is_value : Spec := fun ds μ Q _ => match ds with
  | [d] => (tyName d μ).isSome = true ∧ (∀ x, d = .str x → x.length ≤ 1000) ∧ Q (.bl (isVal d)) μ
  | _ => False
def wordL : List Nat := lettersL ++ [32]
def isWord (l : List Nat) : Bool := decide (1 ≤ l.length) && decide (l.length ≤ 20) && l.all fun c => decide (c ∈ wordL)
structure BD where
  d : List Int
  p : Nat
  bad : Bool
def bytesOk (l : List Int) : Prop := ∀ x ∈ l, 0 ≤ x ∧ x < 256
inductive Ms where
  | two (w : Str) (a b : Int) | cmd (c : Cmd) | refused (w : Str) | ready (n : Int) (s : Str) | rep (r : Rp)
def msD : Ms → D
  | .two w a b => .tup [.str w, .int a, .int b]
  | .cmd c => cmdD c
  | .refused w => .tup [.str "refused", .str w]
  | .ready n s => .tup [.str "ready", .int n, .str s]
  | .rep r => repD r
def sideS (cl : Bool) : Str := if cl = true then "client" else "server"
structure WD where
  cl : Bool
  l : List Int
  ok : Bool
def wireC (w : WD) : Cell := .ins 13 [("side", .str (sideS w.cl)), ("_left", .lst (w.l.map .int)), ("_is_good", .bl w.ok)]
def sp_Wire___init__ : Spec := fun ds μ Q _ => match ds with
  | [.obj k, .str z] => ∃ cl, z = sideS cl ∧ μ.cell k = some (.ins 13 []) ∧ Q .non (μ.put k (wireC ⟨cl, [], true⟩))
  | _ => False
def N_is_integer : List Str := ["value", "least", "most"]
def c_is_integer : IR := .seq (.ret (.andV (.cal "isinstance" spIsi (.cons (.var 0) (.cons (.bty "int") .nil))) (.andV (.notV (.cal "isinstance" spIsi (.cons (.var 0) (.cons (.bty "bool") .nil)))) (.one (.chn .LtE .LtE (.var 1) (.var 0) (.var 2)))))) (.nil)
def N_is_value : List Str := ["value"]
def c_is_value : IR := .seq (.ret (.orV (.cal "is_integer" sp_is_integer (.cons (.var 0) (.cons (.glb "LEAST" (.int (-2147483648))) (.cons (.glb "GREATEST" (.int 2147483647)) .nil)))) (.one (.cal "is_text" sp_is_text (.cons (.var 0) .nil))))) (.nil)
def N_Wire___init__ : List Str := ["self", "side"]
def c_Wire___init__ : IR := .seq (.sno (fSet "side") (eSet [13] "side") (.cons (.var 1) (.cons (.var 0) .nil))) (.seq (.sno (fSet "_left") (eSet [13] "_left") (.cons (.lstC (.nil)) (.cons (.var 0) .nil))) (.seq (.sno (fSet "_is_good") (eSet [13] "_is_good") (.cons (.con (.bl true)) (.cons (.var 0) .nil))) (.nil)))
end M
end
section
namespace M
open PySem PySem.Spec PyProof.Rows L2
open SX (S S_len S_cat)
def bigB : Nat → Int → List Int
  | 0, _ => []
  | c + 1, n => bigB c (n.fdiv 256) ++ [n.fmod 256]
def textB (l : List Nat) : List Int := (l.length : Int) :: l.map fun (c : Nat) => (c : Int)
def kyB : Key → List Int
  | .inl i => 0 :: bigB 4 (i.fmod 4294967296)
  | .inr x => 1 :: textB x.cps.toList
def rowB (r : List Key) : List Int := (r.length : Int) :: r.flatMap kyB
def wholeB (k : Int) (b : List Int) : List Int := k :: (bigB 2 b.length ++ b)
def rowsB (rs : List (List Key)) (more : Bool) : List Int := (if more then 1 else 0) :: (rs.length : Int) :: rs.flatMap rowB
def clientP : Ms → Int × List Int
  | .two w a b => (if w = "hello" then 1 else 7, bigB 4 a ++ bigB 4 b)
  | .cmd (.prepare n s) => (2, textB n.cps.toList ++ textB s.cps.toList)
  | .cmd (.bind p n vs) => (3, textB p.cps.toList ++ textB n.cps.toList ++ rowB vs)
  | .cmd (.run p k) => (4, textB p.cps.toList ++ bigB 2 k)
  | .cmd (.forget n) => (5, textB n.cps.toList)
  | .cmd (.close n) => (6, textB n.cps.toList)
  | _ => (0, [])
def stIx (s : Str) : Int := if s = "none" then 0 else if s = "open" then 1 else 2
def serverP : Ms → Int × List Int
  | .two _ a b => (1, bigB 4 a ++ bigB 4 b)
  | .refused w => (2, textB w.cps.toList)
  | .ready n s => (3, bigB 4 n ++ [stIx s])
  | .rep (.prepared n) => (4, [n])
  | .rep .bound => (5, [])
  | .rep .closed => (6, [])
  | .rep .skipped => (7, [])
  | .rep (.rows rs more) => (8, rowsB rs more)
  | .rep (.complete n) => (9, [n])
  | .rep (.wrong w) => (10, textB w.cps.toList)
  | _ => (0, [])
def clientB (m : Ms) : List Int := wholeB (clientP m).1 (clientP m).2
def intsL (l : List Int) : D := .lst (l.map .int)
def sp_number_bytes : Spec := fun ds μ Q _ => match ds with
  | [.int n, .int c] => 0 ≤ c ∧ c ≤ 4 ∧ Q (intsL (bigB c.toNat n)) μ
  | _ => False
def sp_string_bytes : Spec := fun ds μ Q _ => match ds with
  | [.str x] => x.length ≤ 1000 ∧ Q (intsL (textB x.cps.toList)) μ
  | _ => False
def smallK : Key → Prop
  | .inl _ => True
  | .inr x => x.length ≤ 1000
def sp_value_bytes : Spec := fun ds μ Q _ => match ds with
  | [d] => ∃ k, d = keyD k ∧ smallK k ∧ Q (intsL (kyB k)) μ
  | _ => False
def sp_row_bytes : Spec := fun ds μ Q _ => match ds with
  | [d] => ∃ r : List Key, d = tupK r ∧ r.length ≤ 100 ∧ (∀ k ∈ r, smallK k) ∧ Q (intsL (rowB r)) μ
  | _ => False
def sp_whole : Spec := fun ds μ Q _ => match ds with
  | [.int k, d] => ∃ b : List Int, d = intsL b ∧ b.length ≤ 16000000 ∧ Q (intsL (wholeB k b)) μ
  | _ => False
def N_number_bytes : List Str := ["number", "count", "result", "k"]
def b1_number_bytes : IR := .seq (.exp (.bme "list" "list.append" "append" spApp (.var 2) (.cons (.bin .Mod (.var 0) (.con (.int 256))) .nil))) (.seq (.asg (.gN 0) (.bin .FloorDiv (.var 0) (.con (.int 256)))) (.nil))
def c_number_bytes : IR := .seq (.asg (.gN 2) (.lstM (.nil))) (.seq (.fr (.gN 3) (.itR1 (.var 1)) b1_number_bytes) (.seq (.ret (.nod fRev eRev (.cons (.var 2) .nil))) (.nil)))
def N_string_bytes : List Str := ["string", "sign"]
def c_string_bytes : IR := .seq (.ret (.bin .Add (.lstC (.cons (.cal "len" spLen (.cons (.var 0) .nil)) .nil)) (.cpr [("sign", 1)] (.gN 1) (.itV (.var 0)) (.nop) (.cal "ord" spOrd (.cons (.var 1) .nil))))) (.nil)
def N_value_bytes : List Str := ["value"]
def c_value_bytes : IR := .seq (.ifS (.tV (.cal "isinstance" spIsi (.cons (.var 0) (.cons (.bty "str") .nil)))) (.seq (.ret (.bin .Add (.lstC (.cons (.con (.int 1)) .nil)) (.cal "string_bytes" sp_string_bytes (.cons (.var 0) .nil)))) (.nil)) (.nil)) (.seq (.ret (.bin .Add (.lstC (.cons (.con (.int 0)) .nil)) (.cal "number_bytes" sp_number_bytes (.cons (.bin .Mod (.var 0) (.con (.int 4294967296))) (.cons (.con (.int 4)) .nil))))) (.nil))
def N_row_bytes : List Str := ["row", "result", "value"]
def b1_row_bytes : IR := .seq (.asg (.gN 1) (.bin .Add (.var 1) (.cal "value_bytes" sp_value_bytes (.cons (.var 2) .nil)))) (.nil)
def c_row_bytes : IR := .seq (.asg (.gN 1) (.lstC (.cons (.cal "len" spLen (.cons (.var 0) .nil)) .nil))) (.seq (.fr (.gN 2) (.itV (.var 0)) b1_row_bytes) (.seq (.ret (.var 1)) (.nil)))
def N_whole : List Str := ["kind", "body"]
def c_whole : IR := .seq (.ret (.bin .Add (.bin .Add (.lstC (.cons (.var 0) .nil)) (.cal "number_bytes" sp_number_bytes (.cons (.cal "len" spLen (.cons (.var 1) .nil)) (.cons (.con (.int 2)) .nil)))) (.var 1))) (.nil)
end M
end
section
namespace M
open PySem PySem.Spec PyProof.Rows L2
open SX (S S_len S_cat)
section
variable {a b : Int} {μ : Sto} {Q : Bool → Prop}
theorem c_gt : cmpD .Gt (.int a) (.int b) μ Q = Q (decide (b < a)) := rfl
theorem c_lt : cmpD .Lt (.int a) (.int b) μ Q = Q (decide (a < b)) := rfl
theorem c_le : cmpD .LtE (.int a) (.int b) μ Q = Q (decide (a ≤ b)) := rfl
end
section
variable {i j : Int} {μ : Sto} {Q : Post}
theorem b_add : binD .Add (.int i) (.int j) μ Q = Q (.int (i + j)) μ := rfl
theorem b_sub : binD .Sub (.int i) (.int j) μ Q = Q (.int (i - j)) μ := rfl
theorem b_mul : binD .Mult (.int i) (.int j) μ Q = (CMul i j ∧ Q (.int (i * j)) μ) := rfl
theorem b_mod : binD .Mod (.int i) (.int j) μ Q = (j ≠ 0 ∧ Q (.int (i.fmod j)) μ) := rfl
end
theorem ty_int {d : D} {μ : Sto} (h : tyName d μ = some "int") : ∃ i, d = .int i := by
  unfold tyName at h
  split at h <;> first | (exact ⟨_, rfl⟩) | (simp at h; done) | skip
  split at h <;> simp at h
theorem ty_bool {d : D} {μ : Sto} (h : tyName d μ = some "bool") : ∃ i, d = .bl i := by
  unfold tyName at h
  split at h <;> first | (exact ⟨_, rfl⟩) | (simp at h; done) | skip
  split at h <;> simp at h
theorem w_is_integer : ∀ ds μ Q QX, μ.wf → objBs μ.next ds = true → sp_is_integer ds μ Q QX → ds.length = 3 ∧ wpS c_is_integer (startE N_is_integer ds) μ (outs μ.next Q QX) := by
  intro ds μ Q QX hw ho h
  unfold sp_is_integer at h
  split at h
  · rename_i d lo hi
    obtain ⟨h1, h2⟩ := h
    refine ⟨rfl, ?_⟩
    have hq : finP μ.next Q (.bl (intIn d lo hi)) μ := fin_same hw rfl h2
    obtain ⟨a, ha⟩ := Option.isSome_iff_exists.mp h1
    simp [startE, wpS, wpT, wpE, wpA, wpI, wpG, wpGs, wpOpt, outs, wipeE, ePar, c_is_integer, N_is_integer, spIsi, tysOf, ha]
    refine ⟨by decide, ?_⟩
    by_cases hint : a = "int"
    · subst hint
      obtain ⟨i, rfl⟩ := ty_int ha
      have e1 : (isB "int" "int") = true := by decide
      have e2 : (isB "int" "bool") = false := by decide
      simp only [List.any_cons, List.any_nil, Bool.or_false, e1, e2]
      simp [startE, wpS, wpT, wpE, wpA, wpI, wpG, wpGs, wpOpt, outs, wipeE, ePar, ha, tn_int, tysOf, e2, c_le]
      refine ⟨by decide, ?_⟩
      unfold intIn at hq
      by_cases h3 : lo ≤ i
      · by_cases h4 : i ≤ hi
        · simpa [h3, h4] using hq
        · simpa [h3, h4] using hq
      · simpa [h3] using hq
    · by_cases hbool : a = "bool"
      · subst hbool
        obtain ⟨i, rfl⟩ := ty_bool ha
        have e1 : (isB "bool" "int") = true := by decide
        have e2 : (isB "bool" "bool") = true := by decide
        simp only [List.any_cons, List.any_nil, Bool.or_false, e1]
        simp [startE, wpS, wpT, wpE, wpA, wpI, wpG, wpGs, wpOpt, outs, wipeE, ePar, ha, tn_bl, tysOf, e2]
        exact ⟨by decide, hq⟩
      · have e1 : (isB a "int") = false := by
          unfold isB
          simp [hint, hbool]
        have e3 : intIn d lo hi = false := by
          unfold intIn
          split
          · rw [tn_int] at ha
            cases ha
            exact absurd rfl hint
          · rfl
        rw [e3] at hq
        simp only [List.any_cons, List.any_nil, Bool.or_false, e1]
        simpa using hq
  · exact h.elim
theorem w_is_value : ∀ ds μ Q QX, μ.wf → objBs μ.next ds = true → sp_is_value ds μ Q QX → ds.length = 1 ∧ wpS c_is_value (startE N_is_value ds) μ (outs μ.next Q QX) := by
  intro ds μ Q QX hw ho h
  unfold sp_is_value at h
  split at h
  · rename_i d
    obtain ⟨h1, h3, h2⟩ := h
    refine ⟨rfl, ?_⟩
    have := sz1000
    have hq : finP μ.next Q (.bl (isVal d)) μ := fin_same hw rfl h2
    simp [startE, wpS, wpT, wpE, wpA, wpI, wpG, wpGs, wpOpt, outs, wipeE, ePar, c_is_value, N_is_value, sp_is_integer]
    refine ⟨h1, ?_⟩
    unfold isVal at hq
    cases hi : intIn d (-2147483648) 2147483647 with
    | true =>
      rw [hi] at hq
      exact hq
    | false =>
      rw [hi, Bool.false_or] at hq
      rw [if_neg Bool.false_ne_true]
      unfold sp_is_text spB
      cases d with
      | str x => exact ⟨Nat.le_trans (h3 x rfl) this, hq⟩
      | _ => exact ⟨h1, hq⟩
  · exact h.elim
end M
end
section
namespace M
open PySem PySem.Spec PyProof.Rows L2
open SX (S S_len S_cat)
def sp__law_row : Spec := fun ds μ Q _ => match ds with
  | [.int _, .int n] => 0 ≤ n ∧ n ≤ 1000 ∧ ∀ ns : List Int, ns.length = n.toNat → (∀ x ∈ ns, 0 ≤ x ∧ x < 840) → Q (.lst (ns.map .int)) μ
  | _ => False
def sp__law_name : Spec := fun ds μ Q _ => match ds with
  | [.int _] => ∀ l, isName l = true → Q (strD l) μ
  | _ => False
def sp__law_text : Spec := fun ds μ Q _ => match ds with
  | [.int _] => ∀ l, isText l = true → Q (strD l) μ
  | _ => False
def valOk (d : D) : Prop := (∃ l, isText l = true ∧ d = strD l) ∨ ∃ i : Int, -2147483648 ≤ i ∧ i ≤ 2147483647 ∧ d = .int i
def sp__law_value : Spec := fun ds μ Q _ => match ds with
  | [.int _] => ∀ d, valOk d → Q d μ
  | _ => False
def termOk (u : Int) (d : D) : Prop := (∃ m : Int, 1 ≤ m ∧ m ≤ u + 1 ∧ m ≤ 4 ∧ d = parD m) ∨ (∃ l, isText l = true ∧ d = txtD l) ∨ ∃ i : Int, -2147483648 ≤ i ∧ i ≤ 2147483647 ∧ d = .int i
def sp__law_term : Spec := fun ds μ Q _ => match ds with
  | [.int _, .int u] => 0 ≤ u ∧ u ≤ 4 ∧ ∀ d, termOk u d → Q d μ
  | _ => False
def okItemT (d : D) : Bool := match d with
  | .str _ | .int _ => true
  | .tup [.str _, .int _] => true
  | .tup [.str k, .str _] => decide (k ≠ "parameter")
  | _ => false
def sp__law_used : Spec := fun ds μ Q _ => match ds with
  | [d] => ∃ xs, asSeq d μ = some xs ∧ xs.length + 1 < sizeLine ∧ xs.all okItemT = true ∧ Q (.int (maxI 0 (0 :: parNs xs))) μ
  | _ => False
def stmtOk (ds : List D) : Prop := (∃ w, isName w = true ∧ formOk w 0 = true ∧ ds = [strD w]) ∨
  ∃ w n ts, isName w = true ∧ isName n = true ∧ ts.length ≤ 2 ∧ formOk w (ts.length + 1) = true ∧ (∀ t ∈ ts, termOk 3 t) ∧ (∀ m : Int, 1 ≤ m → m ≤ maxI 0 (parNs ts) → m ∈ parNs ts) ∧ ds = strD w :: strD n :: ts
def sp__law_statement : Spec := fun ds μ Q _ => match ds with
  | [.lst row, .lst names] => ∃ ns : List Int, row = ns.map .int ∧ ns.length = 6 ∧ (∀ x ∈ ns, 0 ≤ x ∧ x < 840) ∧ names ≠ [] ∧ names.length < 1000 ∧ (∀ x ∈ names, ∃ l, isName l = true ∧ x = strD l) ∧ ∀ ds, stmtOk ds → Q (.tup ds) μ
  | _ => False
def numT (i : Int) : List Nat := (Str.ofString (toString i)).cps.toList
def tok (d : D) : List Nat := match d with
  | .str s => s.cps.toList
  | .int i => numT i
  | .tup [.str k, .str x] => if k = "text" then 39 :: (x.cps.toList ++ [39]) else []
  | .tup [.str k, .int n] => if k = "text" then [] else 36 :: numT n
  | _ => []
def written (ds : List D) : List Nat := TL.joinL [32] (ds.map tok)
def wrOk (d : D) : Prop := (∃ l, d = strD l) ∨ (∃ i : Int, i.natAbs < 2 ^ 40 ∧ d = .int i) ∨ (∃ l, d = txtD l) ∨ ∃ n : Int, n.natAbs < 2 ^ 40 ∧ d = parD n
def sp__law_written : Spec := fun ds μ Q _ => match ds with
  | [.tup xs] => xs.length ≤ 10 ∧ (∀ x ∈ xs, wrOk x ∧ (tok x).length ≤ 1000) ∧ Q (strD (written xs)) μ
  | _ => False
def listed (d : D) : D := match d with
  | .tup xs => .lst xs
  | d => d
end M
end
section
namespace M
open PySem PySem.Spec PyProof.Rows L2
def N__law_row : List Str := ["_law_cell_here", "_law_count", "_law_row_here", "_law_rest", "_law_seed", "_law_k"]
def b1__law_row : IR := .seq (.ifS (.cmp .GtE (.var 0) (.bin .Pow (.con (.int 10)) (.con (.int 18)))) (.seq (.exp (.bme "list" "list.append" "append" spApp (.var 2) (.cons (.bin .Mod (.cal "int" spInt (.cons (.var 3) .nil)) (.con (.int 840))) .nil))) (.seq (.asg (.gN 3) (.bin .FloorDiv (.var 3) (.con (.int 840)))) (.nil))) (.seq (.asg (.gN 4) (.bin .Mod (.cal "int" spInt (.cons (.bin .Add (.bin .Mult (.var 4) (.con (.int 48271))) (.var 5)) .nil)) (.con (.int 2147483647)))) (.seq (.exp (.bme "list" "list.append" "append" spApp (.var 2) (.cons (.bin .Mod (.bin .FloorDiv (.bin .Mod (.cal "int" spInt (.cons (.bin .Mult (.var 4) (.con (.int 69621))) .nil)) (.con (.int 2147483629))) (.con (.int 7))) (.con (.int 840))) .nil))) (.nil)))) (.nil)
def c__law_row : IR := .seq (.asg (.gN 2) (.lstM (.nil))) (.seq (.asg (.gN 3) (.var 0)) (.seq (.asg (.gN 4) (.bin .Add (.bin .Mod (.cal "int" spInt (.cons (.var 0) .nil)) (.con (.int 2147483629))) (.con (.int 1)))) (.seq (.fr (.gN 5) (.itR1 (.var 1)) b1__law_row) (.seq (.ret (.frz (.var 2))) (.nil)))))
def N__law_name : List Str := ["_law_number", "_law_letters", "_law_k"]
def c__law_name : IR := .seq (.asg (.gN 1) (.con (.str "abcdefghijklmnopqrstuvwxyz"))) (.seq (.ret (.bme "str" "str.join" "join" spJoin (.con (.str "")) (.cons (.cpr [("_law_k", 2)] (.gN 2) (.itR1 (.bin .Add (.con (.int 1)) (.bin .Mod (.var 0) (.con (.int 8))))) (.nop) (.ix (.var 1) (.bin .Mod (.bin .FloorDiv (.var 0) (.bin .Add (.con (.int 1)) (.bin .Mult (.con (.int 3)) (.var 2)))) (.con (.int 26))))) .nil))) (.nil))
def N__law_text : List Str := ["_law_number", "_law_signs", "_law_texts", "_law_count", "_law_k"]
def c__law_text : IR := .seq (.asg (.gN 1) (.bin .Add (.con (.str " !#$&()*+,-./0123456789:;<=>?@ABCDEFGHIJKLMNOPQRSTUVWXYZ[\\]^_`abcdefghijklmnopqrstuvwxyz{|}~")) (.con (.str "\"")))) (.seq (.asg (.gN 2) (.lstC (.cons (.con (.str "")) (.cons (.con (.str " ")) (.cons (.con (.str "a b")) (.cons (.con (.str "it")) (.cons (.con (.str "$1")) (.cons (.con (.str "-5")) (.cons (.con (.str "~!#")) (.cons (.bin .Mult (.con (.str "x")) (.con (.int 40))) (.cons (.con (.str "Ab 9")) (.cons (.con (.str "  ")) (.cons (.con (.str "7")) (.cons (.con (.str "put")) .nil)))))))))))))) (.seq (.ifS (.cmp .Eq (.bin .Mod (.var 0) (.con (.int 3))) (.con (.int 0))) (.seq (.asg (.gN 3) (.bin .Add (.con (.int 1)) (.bin .Mod (.bin .FloorDiv (.var 0) (.con (.int 3))) (.con (.int 40))))) (.seq (.ret (.bme "str" "str.join" "join" spJoin (.con (.str "")) (.cons (.cpr [("_law_k", 4)] (.gN 4) (.itR1 (.var 3)) (.nop) (.ix (.var 1) (.bin .Mod (.bin .Add (.bin .Mult (.con (.int 7)) (.bin .FloorDiv (.var 0) (.con (.int 3)))) (.bin .Mult (.var 4) (.bin .Add (.con (.int 1)) (.bin .Mod (.var 0) (.con (.int 5)))))) (.con (.int 93))))) .nil))) (.nil))) (.nil)) (.seq (.ifS (.cmp .Eq (.bin .Mod (.var 0) (.con (.int 13))) (.con (.int 12))) (.seq (.ret (.cal "_law_name" sp__law_name (.cons (.bin .FloorDiv (.var 0) (.con (.int 13))) .nil))) (.nil)) (.nil)) (.seq (.ret (.ix (.var 2) (.bin .Mod (.bin .Mod (.var 0) (.con (.int 13))) (.con (.int 12))))) (.nil)))))
def N__law_value : List Str := ["_law_number"]
def c__law_value : IR := .seq (.ifS (.cmp .Lt (.bin .Mod (.var 0) (.con (.int 5))) (.con (.int 2))) (.seq (.ret (.bin .Sub (.bin .Mod (.bin .FloorDiv (.var 0) (.con (.int 5))) (.con (.int 7))) (.con (.int 3)))) (.nil)) (.nil)) (.seq (.ifS (.cmp .Eq (.bin .Mod (.var 0) (.con (.int 5))) (.con (.int 2))) (.seq (.ret (.bin .Sub (.bin .Mod (.bin .Add (.bin .Mult (.bin .Mult (.var 0) (.con (.int 5113))) (.con (.int 40503))) (.con (.int 12345))) (.con (.int 4294967296))) (.con (.int 2147483648)))) (.nil)) (.nil)) (.seq (.ifS (.cmp .Eq (.bin .Mod (.var 0) (.con (.int 5))) (.con (.int 3))) (.seq (.ret (.ix (.lstC (.cons (.con (.int 2147483647)) (.cons (.neg (.con (.int 2147483648))) (.cons (.con (.int 1000000)) (.cons (.con (.int 0)) (.cons (.con (.int 255)) (.cons (.con (.int 256)) (.cons (.neg (.con (.int 1))) .nil)))))))) (.bin .Mod (.bin .FloorDiv (.var 0) (.con (.int 5))) (.con (.int 7))))) (.nil)) (.nil)) (.seq (.ret (.cal "_law_text" sp__law_text (.cons (.bin .FloorDiv (.var 0) (.con (.int 5))) .nil))) (.nil))))
def N__law_term : List Str := ["_law_number", "_law_used_here", "_law_value_here"]
def c__law_term : IR := .seq (.ifS (.tAnd (.cmp .Eq (.bin .Mod (.var 0) (.con (.int 7))) (.con (.int 0))) (.tOne (.cmp .Lt (.var 1) (.con (.int 4))))) (.seq (.ret (.tupC (.cons (.con (.str "parameter")) (.cons (.bin .Add (.var 1) (.con (.int 1))) .nil)))) (.nil)) (.nil)) (.seq (.ifS (.tAnd (.cmp .Eq (.bin .Mod (.var 0) (.con (.int 7))) (.con (.int 1))) (.tOne (.cmp .Gt (.var 1) (.con (.int 0))))) (.seq (.ret (.tupC (.cons (.con (.str "parameter")) (.cons (.bin .Add (.con (.int 1)) (.bin .Mod (.bin .FloorDiv (.var 0) (.con (.int 7))) (.var 1))) .nil)))) (.nil)) (.nil)) (.seq (.asg (.gN 2) (.cal "_law_value" sp__law_value (.cons (.bin .FloorDiv (.var 0) (.con (.int 7))) .nil))) (.seq (.ifS (.tV (.cal "isinstance" spIsi (.cons (.var 2) (.cons (.bty "str") .nil)))) (.seq (.ret (.tupC (.cons (.con (.str "text")) (.cons (.var 2) .nil)))) (.nil)) (.nil)) (.seq (.ret (.var 2)) (.nil)))))
def N__law_used : List Str := ["_law_parts", "_law_numbers", "_law_part"]
def c__law_used : IR := .seq (.asc 1 (.cpr [("_law_part", 2)] (.gN 2) (.itV (.var 0)) (.tAnd (.tV (.cal "isinstance" spIsi (.cons (.var 2) (.cons (.bty "tuple") .nil)))) (.tOne (.cmp .Eq (.ix (.var 2) (.con (.int 0))) (.con (.str "parameter"))))) (.ix (.var 2) (.con (.int 1))))) (.seq (.ret (.cal "max" spMax (.cons (.bin .Add (.lstC (.cons (.con (.int 0)) .nil)) (.var 1)) .nil))) (.nil))
def N__law_statement : List Str := ["_law_row_here", "_law_names", "_law_words", "_law_word", "_law_parts", "_law_count", "_law_k"]
def b1__law_statement : IR := .seq (.exp (.bme "list" "list.append" "append" spApp (.var 4) (.cons (.cal "_law_term" sp__law_term (.cons (.bin .Add (.ix (.var 0) (.bin .Add (.con (.int 3)) (.var 6))) (.bin .Mult (.con (.int 840)) (.ix (.var 0) (.bin .Sub (.con (.int 5)) (.bin .Mult (.con (.int 3)) (.var 6)))))) (.cons (.cal "_law_used" sp__law_used (.cons (.var 4) .nil)) .nil))) .nil))) (.nil)
def r8__law_statement : IR := .seq (.ret (.cal "tuple" spTup (.cons (.var 4) .nil))) (.nil)
def r7__law_statement : IR := .seq (.fr (.gN 6) (.itR1 (.var 5)) b1__law_statement) r8__law_statement
def r6__law_statement : IR := .seq (.ifS (.tAnd (.cmp .Eq (.var 5) (.con (.int 2))) (.tOne (.cmp .Eq (.bin .Mod (.ix (.var 0) (.con (.int 5))) (.con (.int 3))) (.con (.int 0))))) (.seq (.ret (.tupC (.cons (.var 3) (.cons (.ix (.var 4) (.con (.int 1))) (.cons (.tupC (.cons (.con (.str "parameter")) (.cons (.con (.int 2)) .nil))) (.cons (.tupC (.cons (.con (.str "parameter")) (.cons (.con (.int 1)) .nil))) .nil)))))) (.nil)) (.nil)) r7__law_statement
def r5__law_statement : IR := .seq (.asg (.gN 5) (.bme "dict" "dict.get" "get" spDget (.nod (fDsp ["put", "get", "delete", "scan"]) (eDsp ["put", "get", "delete", "scan"]) (.cons (.con (.int 2)) (.cons (.con (.int 1)) (.cons (.con (.int 1)) (.cons (.bin .Mult (.con (.int 2)) (.bin .Mod (.ix (.var 0) (.con (.int 2))) (.con (.int 2)))) .nil))))) (.cons (.var 3) (.cons (.con (.int 0)) .nil)))) r6__law_statement
def r4__law_statement : IR := .seq (.asg (.gN 4) (.lstM (.cons (.var 3) (.cons (.ix (.var 1) (.bin .Mod (.ix (.var 0) (.con (.int 1))) (.cal "len" spLen (.cons (.var 1) .nil)))) .nil)))) r5__law_statement
def r3__law_statement : IR := .seq (.ifS (.cmp .In (.var 3) (.lstC (.cons (.con (.str "begin")) (.cons (.con (.str "commit")) (.cons (.con (.str "rollback")) .nil))))) (.seq (.ret (.tupC (.cons (.var 3) .nil))) (.nil)) (.nil)) r4__law_statement
def r2__law_statement : IR := .seq (.asg (.gN 3) (.ix (.var 2) (.bin .Mod (.ix (.var 0) (.con (.int 0))) (.cal "len" spLen (.cons (.var 2) .nil))))) r3__law_statement
def r1__law_statement : IR := .seq (.asg (.gN 2) (.bin .Add (.var 2) (.lstC (.cons (.con (.str "rollback")) (.cons (.con (.str "drop")) (.cons (.con (.str "create")) (.cons (.con (.str "put")) (.cons (.con (.str "begin")) (.cons (.con (.str "save")) (.cons (.con (.str "undo")) (.cons (.con (.str "scan")) .nil))))))))))) r2__law_statement
def c__law_statement : IR := .seq (.asg (.gN 2) (.lstC (.cons (.con (.str "create")) (.cons (.con (.str "put")) (.cons (.con (.str "put")) (.cons (.con (.str "scan")) (.cons (.con (.str "begin")) (.cons (.con (.str "commit")) (.cons (.con (.str "put")) (.cons (.con (.str "get")) (.cons (.con (.str "delete")) (.cons (.con (.str "total")) (.cons (.con (.str "scan")) (.cons (.con (.str "save")) (.cons (.con (.str "undo")) .nil))))))))))))))) r1__law_statement
def N__law_written : List Str := ["_law_parts", "_law_words", "_law_part"]
def b1__law_written : IR := .seq (.ifS (.tV (.cal "isinstance" spIsi (.cons (.var 2) (.cons (.bty "str") .nil)))) (.seq (.exp (.bme "list" "list.append" "append" spApp (.var 1) (.cons (.var 2) .nil))) (.nil)) (.seq (.ifS (.tV (.cal "isinstance" spIsi (.cons (.var 2) (.cons (.bty "int") .nil)))) (.seq (.exp (.bme "list" "list.append" "append" spApp (.var 1) (.cons (.cal "str" spStr (.cons (.var 2) .nil)) .nil))) (.nil)) (.seq (.ifS (.cmp .Eq (.ix (.var 2) (.con (.int 0))) (.con (.str "text"))) (.seq (.exp (.bme "list" "list.append" "append" spApp (.var 1) (.cons (.bin .Add (.bin .Add (.con (.str "'")) (.ix (.var 2) (.con (.int 1)))) (.con (.str "'"))) .nil))) (.nil)) (.seq (.exp (.bme "list" "list.append" "append" spApp (.var 1) (.cons (.bin .Add (.con (.str "$")) (.cal "str" spStr (.cons (.ix (.var 2) (.con (.int 1))) .nil))) .nil))) (.nil))) (.nil))) (.nil))) (.nil)
def c__law_written : IR := .seq (.asg (.gN 1) (.lstM (.nil))) (.seq (.fr (.gN 2) (.itV (.var 0)) b1__law_written) (.seq (.ret (.bme "str" "str.join" "join" spJoin (.con (.str " ")) (.cons (.var 1) .nil))) (.nil)))
end M
end
section
namespace M
open PySem PySem.Spec PyProof.Rows L2
open SX (S S_len S_cat)
theorem objBs_mapW {α : Type} (n : Nat) (f : α → D) (hf : ∀ a, objB n (f a) = true) : ∀ xs : List α, objBs n (xs.map f) = true
  | [] => rfl
  | x :: xs => by
    show (objB n (f x) && objBs n (xs.map f)) = true
    rw [hf, objBs_mapW n f hf xs]
    rfl
theorem cpow_10_18 : CPow 10 18 := by unfold CPow; decide
theorem cdiv_small {a b : Int} (h : 0 < b) (h2 : b < 1073741824) : CDivN a b := by
  unfold CDivN
  first | omega | (constructor <;> omega)
theorem cmul_r {a b : Int} (h : 0 ≤ b) (h2 : b < 1073741824) : CMul a b := by
  unfold CMul
  first | omega | (right; omega)
theorem w__law_row : ∀ ds μ Q QX, μ.wf → objBs μ.next ds = true → sp__law_row ds μ Q QX → ds.length = 2 ∧ wpS c__law_row (startE N__law_row ds) μ (outs μ.next Q QX) := by
  intro ds μ Q QX hw ho h
  unfold sp__law_row at h
  split at h
  · rename_i c n
    refine ⟨rfl, ?_⟩
    obtain ⟨h0, h00, h1⟩ := h
    simp [startE, wpS, wpT, wpE, wpA, wpI, wpG, wpGs, wpOpt, spLen, spIsi, spInt, spStr, spTup, spLst, spMax, spApp, spFind, spSplit, spJoin, spDget, tn_str, tn_int, tn_bl, tn_non, tn_tup, tn_lst, tn_scr, td_str, td_lst, isB, tys, truD, cmpD, binD, slD, ixD, outs, eAllS, eAllN, eMaxD, eGin, eGinT, eGix, eRse, eCal0, drf, sq_tup, sq_lst, sq_scr, sq_str, sq_int, sq_non, l_lst, l_scr, l_tup, lm_lst, lm_str, lm_int, lm_tup, lm_non, lm_bl, eqOk_str, eqOk_int, eqOk_non, deq_int, deq_str, two_le, isNonD, tysOf, c__law_row, N__law_row]
    refine ⟨by omega, by omega, ?_⟩
    refine for_gen (fun i δ μ' => ∃ (ns : List Int) (r s : Int) (o : Option D), δ = [some (.int c), some (.int n), some (.obj μ.next), some (.int r), some (.int s), o] ∧ μ.Part μ' ∧ μ'.cell μ.next = some (.lst (ns.map .int)) ∧ ns.length = i ∧ (∀ x ∈ ns, 0 ≤ x ∧ x < 840) ∧ 0 ≤ s ∧ s < 2147483648)
      ⟨[], _, _, _, rfl, part_mk hw (part_self hw), Sto.new_same, rfl, (fun _ z => by cases z), ?_, ?_⟩ ?_ ?_
    · have := fmod_lt (a := c) (b := 2147483629) (by omega)
      omega
    · have := fmod_lt (a := c) (b := 2147483629) (by omega)
      omega
    · rintro i x LW hx hLW δ μ' ⟨ns, r, s, o, rfl, q1, q2, q3, q4, q5, q6⟩
      obtain ⟨hi, rfl⟩ := intsD_at hx
      have hz : ns.length < sizeLine := by rw [sizeLine_eq]; omega
      have next : ∀ (y r s o), 0 ≤ y → y < 840 → 0 ≤ s → s < 2147483648 → LW [some (.int c), some (.int n), some (.obj μ.next), some (.int r), some (.int s), o] (μ'.put μ.next (.lst (ns.map .int ++ [.int y]))) := fun y r s o h1 h2 h3 h4 =>
        hLW _ _ ⟨ns ++ [y], r, s, o, rfl, part_put hw q1 (Nat.le_refl _), by rw [Sto.put_same]; simp, by simp [q3], fun x hx => by
          rcases List.mem_append.mp hx with z | z
          · exact q4 x z
          · rw [List.mem_singleton] at z
            subst z
            exact ⟨h1, h2⟩, h3, h4⟩
      refine ⟨trivial, ?_⟩
      simp [startE, wpS, wpT, wpE, wpA, wpI, wpG, wpGs, wpOpt, spLen, spIsi, spInt, spStr, spTup, spLst, spMax, spApp, spFind, spSplit, spJoin, spDget, tn_str, tn_int, tn_bl, tn_non, tn_tup, tn_lst, tn_scr, td_str, td_lst, isB, tys, truD, cmpD, binD, slD, ixD, outs, eAllS, eAllN, eMaxD, eGin, eGinT, eGix, eRse, eCal0, drf, sq_tup, sq_lst, sq_scr, sq_str, sq_int, sq_non, l_lst, l_scr, l_tup, lm_lst, lm_str, lm_int, lm_tup, lm_non, lm_bl, eqOk_str, eqOk_int, eqOk_non, deq_int, deq_str, two_le, isNonD, tysOf, b1__law_row, td_obj q2, q2, hz]
      have m1 : ∀ a : Int, 0 ≤ a.fmod 840 ∧ a.fmod 840 < 840 := fun a => fmod_lt (by omega)
      have m2 : ∀ a : Int, 0 ≤ a.fmod 2147483647 ∧ a.fmod 2147483647 < 2147483647 := fun a => fmod_lt (by omega)
      refine ⟨cpow_10_18, ?_⟩
      split
      · exact ⟨cdiv_small (by omega) (by omega), next _ _ _ _ (m1 _).1 (m1 _).2 q5 q6⟩
      · exact ⟨cmul_r (by omega) (by omega), cmul_r (by omega) (by omega), cdiv_small (by omega) (by omega), next _ _ _ _ (m1 _).1 (m1 _).2 (m2 _).1 (by have := (m2 (s * 48271 + i)).2; omega)⟩
    · rintro δ μ' ⟨ns, r, s, o, rfl, q1, q2, q3, q4, q5, q6⟩
      refine ⟨trivial, ?_⟩
      rw [intsD_len] at q3
      simp [q2]
      exact fin_part (part_del hw q1 (Nat.le_refl _)) (objBs_mapW _ _ (fun _ => rfl) _) (h1 ns q3 q4)
  · exact h.elim
end M
end
section
namespace M
open PySem PySem.Spec PyProof.Rows L2
open SX (S S_len S_cat)
theorem join_nil : ∀ ls : List (List Nat), TL.joinL [] ls = ls.flatten
  | [] => rfl
  | [p] => by simp [TL.joinL]
  | p :: q :: r => by
    show p ++ ([] ++ TL.joinL [] (q :: r)) = _
    rw [join_nil (q :: r)]
    simp
theorem join_signs (cs : List Nat) : Txt.join (S []) (cs.map fun c => S [c]) = S cs := by
  have e : (cs.map fun c => S [c]) = (cs.map fun c => [c]).map S := by rw [List.map_map]; rfl
  rw [e, SX.join_S, join_nil]
  congr 2
  induction cs with
  | nil => rfl
  | cons c cs ih => simp [ih]
theorem sum_ones (cs : List Nat) : ((cs.map fun c => S [c]).map (·.length)).sum = cs.length := by
  induction cs with
  | nil => rfl
  | cons c cs ih =>
    rw [List.map_cons, List.map_cons, List.sum_cons, ih, S_len, List.length_cons]
    simp
    omega
theorem fm_some {α β : Type} {f : α → Option β} {g : α → β} : ∀ {xs : List α}, (∀ x ∈ xs, f x = some (g x)) → xs.filterMap f = xs.map g
  | [], _ => rfl
  | x :: xs, h => by rw [List.filterMap_cons, h x List.mem_cons_self, List.map_cons, fm_some fun y hy => h y (List.mem_cons_of_mem _ hy)]
theorem signs_from {l : List Nat} {n : Nat} {f : Nat → Int} (hf : ∀ k, k < n → ∃ c ∈ l, atI l (f k) = some c) : ∃ cs : List Nat, cs.length = n ∧ (∀ c ∈ cs, c ∈ l) ∧ ∀ k, k < n → ∃ c, cs[k]? = some c ∧ atI l (f k) = some c := by
  induction n with
  | zero => exact ⟨[], rfl, (fun _ z => by cases z), fun k hk => by omega⟩
  | succ n ih =>
    obtain ⟨cs, h1, h2, h3⟩ := ih fun k hk => hf k (by omega)
    obtain ⟨c, hc, e⟩ := hf n (by omega)
    refine ⟨cs ++ [c], by simp [h1], fun d hd => ?_, fun k hk => ?_⟩
    · rcases List.mem_append.mp hd with z | z
      · exact h2 d z
      · rw [List.mem_singleton] at z
        rw [z]
        exact hc
    · by_cases hkn : k < n
      · obtain ⟨d, e1, e2⟩ := h3 k hkn
        exact ⟨d, by rw [List.getElem?_append_left (by omega)]; exact e1, e2⟩
      · have : k = n := by omega
        subst this
        exact ⟨c, by rw [List.getElem?_append_right (by omega), h1]; simp, e⟩
theorem atI_in {l : List Nat} {i : Int} (h : 0 ≤ i ∧ i < l.length) : ∃ c ∈ l, atI l i = some c := by
  obtain ⟨k, rfl⟩ := Int.eq_ofNat_of_zero_le h.1
  have hk : k < l.length := by omega
  exact ⟨l[k], List.getElem_mem hk, by rw [atI_nat', List.getElem?_eq_getElem hk]⟩
theorem loop_signs {turn : D → Sto → (Option D → Sto → Prop) → Prop} {gd : Sto → Prop} {fin : List D → Sto → Prop} {μ : Sto} {n : Nat} {l : List Nat} {f : Nat → Int} (hg : gd μ) (hz : n ≤ sizeLine) (hf : ∀ k, k < n → 0 ≤ f k ∧ f k < l.length)
    (ht : ∀ (k : Nat) (c : Nat) (N : Option D → Sto → Prop), k < n → atI l (f k) = some c → N (some (strD [c])) μ → turn (.int k) μ N) (hfin : ∀ cs : List Nat, cs.length = n → (∀ c ∈ cs, c ∈ l) → fin (cs.map fun c => strD [c]) μ) :
    loopC turn gd fin (intsD 0 n) [] μ := by
  obtain ⟨cs, h1, h2, h3⟩ := signs_from (l := l) (n := n) (f := f) fun k hk => atI_in (hf k hk)
  have e : (intsD 0 n).filterMap (fun x => match x with
      | .int k => (cs[k.toNat]?).map fun c => strD [c]
      | _ => none) = cs.map fun c => strD [c] := by
    rw [fm_some (g := fun x => match x with
      | .int k => strD [cs.getD k.toNat 0]
      | _ => .non) fun x hx => ?_]
    · apply List.ext_getElem?
      intro i
      rw [List.getElem?_map, List.getElem?_map]
      by_cases hi : i < n
      · rw [intsD_get hi]
        have : i < cs.length := by omega
        simp [this, List.getD]
      · rw [List.getElem?_eq_none (by rw [intsD_len]; omega), List.getElem?_eq_none (by omega)]
        rfl
    · obtain ⟨k, hk, rfl⟩ := List.getElem_of_mem hx
      rw [intsD_len] at hk
      have ek := intsD_at (List.getElem?_eq_getElem (by rw [intsD_len]; exact hk) : (intsD 0 n)[k]? = _)
      rw [ek.2]
      have hk2 : (0 + (k : Int)).toNat < cs.length := by omega
      dsimp only
      rw [List.getElem?_eq_getElem hk2, List.getD_eq_getElem?_getD, List.getElem?_eq_getElem hk2]
      rfl
  refine loopC_pure (fun x => match x with
      | .int k => (cs[k.toNat]?).map fun c => strD [c]
      | _ => none) hg (fun x hx N hN => ?_) (by rw [intsD_len]; simpa using hz) (by rw [List.nil_append, e]; exact hfin cs h1 h2)
  obtain ⟨k, hk, rfl⟩ := List.getElem_of_mem hx
  rw [intsD_len] at hk
  have ek := intsD_at (List.getElem?_eq_getElem (by rw [intsD_len]; exact hk) : (intsD 0 n)[k]? = _)
  rw [ek.2] at hN ⊢
  obtain ⟨c, e1, e2⟩ := h3 k hk
  rw [show (0 + (k : Int)) = k by omega] at hN ⊢
  refine ht k c N hk e2 ?_
  dsimp only at hN
  rw [Int.toNat_natCast, e1] at hN
  exact hN
theorem cmul_l {a b : Int} (h : 0 ≤ a) (h2 : a < 1073741824) : CMul a b := by
  unfold CMul
  left
  omega
theorem w__law_name : ∀ ds μ Q QX, μ.wf → objBs μ.next ds = true → sp__law_name ds μ Q QX → ds.length = 1 ∧ wpS c__law_name (startE N__law_name ds) μ (outs μ.next Q QX) := by
  intro ds μ Q QX hw ho h
  unfold sp__law_name at h
  split at h
  · rename_i m
    refine ⟨rfl, ?_⟩
    have hq : ∀ l, isName l = true → finP μ.next Q (strD l) μ := fun l hl => fin_same hw rfl (h l hl)
    have m1 : ∀ a : Int, 0 ≤ a.fmod 26 ∧ a.fmod 26 < 26 := fun a => fmod_lt (by omega)
    have m2 := fmod_lt (a := m) (b := 8) (by omega)
    simp [startE, wpS, wpT, wpE, wpA, wpI, wpG, wpGs, wpOpt, spLen, spIsi, spInt, spStr, spTup, spLst, spMax, spApp, spFind, spSplit, spJoin, spDget, tn_str, tn_int, tn_bl, tn_non, tn_tup, tn_lst, tn_scr, td_str, td_lst, isB, tys, truD, cmpD, binD, slD, ixD, outs, eAllS, eAllN, eMaxD, eGin, eGinT, eGix, eRse, eCal0, drf, sq_tup, sq_lst, sq_scr, sq_str, sq_int, sq_non, l_lst, l_scr, l_tup, lm_lst, lm_str, lm_int, lm_tup, lm_non, lm_bl, eqOk_str, eqOk_int, eqOk_non, deq_int, deq_str, two_le, isNonD, tysOf, c__law_name, N__law_name, wipeE]
    refine ⟨by omega, by omega, ?_⟩
    have hlen : lettersL.length = 26 := by decide +kernel
    refine loop_signs (l := lettersL) (f := fun k => (m.fdiv (1 + 3 * (k : Int))).fmod 26) trivial (by rw [sizeLine_eq]; omega) (fun k hk => by rw [hlen]; exact m1 _) (fun k c N hk he hN => ?_) (fun cs hcs hin => ?_)
    · dsimp only
      refine ⟨cmul_l (by omega) (by omega), cdiv_small (by omega) (by omega), by decide +kernel, ?_⟩
      rw [show (Str.ofString "abcdefghijklmnopqrstuvwxyz").cps.toList = lettersL from rfl, he]
      exact hN
    · refine ⟨cs.map fun c => S [c], by rw [List.map_map]; rfl, ?_, ?_⟩
      · rw [sum_ones, show (Str.ofString "").length = 0 from rfl]
        omega
      · rw [lit_empty, join_signs]
        refine hq cs ?_
        unfold isName
        simp
        refine ⟨⟨by omega, by omega⟩, fun x hx => ?_⟩
        exact hin x hx
  · exact h.elim
def textL : List Nat := ((" !#$&()*+,-./0123456789:;<=>?@ABCDEFGHIJKLMNOPQRSTUVWXYZ[\\]^_`abcdefghijklmnopqrstuvwxyz{|}~" : Str) ++ ("\"" : Str)).cps.toList
theorem textL_ok : ∀ c ∈ textL, c ∈ signsL ∧ c ≠ 39 := by decide +kernel
theorem letters_ok : ∀ c ∈ lettersL, c ∈ signsL ∧ c ≠ 39 := by decide +kernel
theorem isText_name {l : List Nat} (h : isName l = true) : isText l = true := by
  unfold isName at h
  simp at h
  obtain ⟨⟨h1, h2⟩, h3⟩ := h
  unfold isText isStrg
  simp
  exact ⟨⟨⟨by omega, fun x hx => (letters_ok x (h3 x hx)).1⟩, by omega⟩, fun z => (letters_ok 39 (h3 39 z)).2 rfl⟩
theorem atI_all {P : D → Prop} {l : List D} (h : ∀ d ∈ l, P d) {i : Int} (hi : 0 ≤ i ∧ i < l.length) : ∃ d, atI l i = some d ∧ P d := by
  obtain ⟨k, rfl⟩ := Int.eq_ofNat_of_zero_le hi.1
  have hk : k < l.length := by omega
  exact ⟨l[k], by rw [atI_nat', List.getElem?_eq_getElem hk], h _ (List.getElem_mem hk)⟩
theorem texts_ok : ∀ d ∈ [D.str "", D.str " ", D.str "a b", D.str "it", D.str "$1", D.str "-5", D.str "~!#", D.str (repS "x" 40), D.str "Ab 9", D.str "  ", D.str "7", D.str "put"], ∃ l, isText l = true ∧ d = strD l := by
  have mk : ∀ x : Str, isText x.cps.toList = true → ∃ l, isText l = true ∧ D.str x = strD l := fun x h => ⟨x.cps.toList, h, by rw [strD, SX.S_tl]⟩
  intro d hd
  simp only [List.mem_cons, List.not_mem_nil, or_false] at hd
  rcases hd with rfl | rfl | rfl | rfl | rfl | rfl | rfl | rfl | rfl | rfl | rfl | rfl <;> exact mk _ (by decide +kernel)
theorem ints_ok : ∀ d ∈ [D.int 2147483647, D.int (-2147483648), D.int 1000000, D.int 0, D.int 255, D.int 256, D.int (-1)], ∃ i : Int, -2147483648 ≤ i ∧ i ≤ 2147483647 ∧ d = .int i := by
  intro d hd
  simp only [List.mem_cons, List.not_mem_nil, or_false] at hd
  rcases hd with rfl | rfl | rfl | rfl | rfl | rfl | rfl <;> exact ⟨_, by omega, by omega, rfl⟩
theorem w__law_text : ∀ ds μ Q QX, μ.wf → objBs μ.next ds = true → sp__law_text ds μ Q QX → ds.length = 1 ∧ wpS c__law_text (startE N__law_text ds) μ (outs μ.next Q QX) := by
  intro ds μ Q QX hw ho h
  unfold sp__law_text at h
  split at h
  · rename_i m
    refine ⟨rfl, ?_⟩
    have hq : ∀ l, isText l = true → finP μ.next Q (strD l) μ := fun l hl => fin_same hw rfl (h l hl)
    have m1 : ∀ a : Int, 0 ≤ a.fmod 93 ∧ a.fmod 93 < 93 := fun a => fmod_lt (by omega)
    have m2 := fmod_lt (a := (m.fdiv 3)) (b := 40) (by omega)
    have m3 := fmod_lt (a := m) (b := 5) (by omega)
    have m4 : ∀ a : Int, 0 ≤ a.fmod 12 ∧ a.fmod 12 < 12 := fun a => fmod_lt (by omega)
    simp [startE, wpS, wpT, wpE, wpA, wpI, wpG, wpGs, wpOpt, spLen, spIsi, spInt, spStr, spTup, spLst, spMax, spApp, spFind, spSplit, spJoin, spDget, tn_str, tn_int, tn_bl, tn_non, tn_tup, tn_lst, tn_scr, td_str, td_lst, isB, tys, truD, cmpD, binD, slD, ixD, outs, eAllS, eAllN, eMaxD, eGin, eGinT, eGix, eRse, eCal0, drf, sq_tup, sq_lst, sq_scr, sq_str, sq_int, sq_non, l_lst, l_scr, l_tup, lm_lst, lm_str, lm_int, lm_tup, lm_non, lm_bl, eqOk_str, eqOk_int, eqOk_non, deq_int, deq_str, two_le, isNonD, tysOf, c__law_text, N__law_text, wipeE, sp__law_name]
    have hlen : textL.length = 93 := by decide +kernel
    refine ⟨by decide +kernel, by decide +kernel, by rw [sizeLine_eq]; omega, ?_⟩
    split
    · refine ⟨cdiv_small (by omega) (by omega), by omega, by omega, ?_⟩
      refine loop_signs (l := textL) (f := fun k => (7 * m.fdiv 3 + (k : Int) * (1 + m.fmod 5)).fmod 93) trivial (by rw [sizeLine_eq]; omega) (fun k hk => by rw [hlen]; exact m1 _) (fun k c N hk he hN => ?_) (fun cs hcs hin => ?_)
      · dsimp only
        refine ⟨cdiv_small (by omega) (by omega), cmul_l (by omega) (by omega), cmul_r (by omega) (by omega), by decide +kernel, ?_⟩
        rw [show (Str.ofString " !#$&()*+,-./0123456789:;<=>?@ABCDEFGHIJKLMNOPQRSTUVWXYZ[\\]^_`abcdefghijklmnopqrstuvwxyz{|}~" ++ Str.ofString "\"").cps.toList = textL from rfl, he]
        exact hN
      · refine ⟨cs.map fun c => S [c], by rw [List.map_map]; rfl, ?_, ?_⟩
        · rw [sum_ones, show (Str.ofString "").length = 0 from rfl]
          omega
        · rw [lit_empty, join_signs]
          refine hq cs ?_
          have hs : ∀ c ∈ cs, c ∈ signsL ∧ c ≠ 39 := fun c hc => textL_ok c (hin c hc)
          unfold isText isStrg
          simp
          exact ⟨⟨⟨by omega, fun x hx => (hs x hx).1⟩, by omega⟩, fun z => (hs 39 z).2 rfl⟩
    · split
      · exact ⟨cdiv_small (by omega) (by omega), fun l hl => hq l (isText_name hl)⟩
      · obtain ⟨d, e, l, hl, rfl⟩ := atI_all (P := fun d => ∃ l, isText l = true ∧ d = strD l) texts_ok (i := (m.fmod 13).fmod 12) (by have := m4 (m.fmod 13); exact this)
        rw [e]
        exact hq l hl
  · exact h.elim
theorem w__law_value : ∀ ds μ Q QX, μ.wf → objBs μ.next ds = true → sp__law_value ds μ Q QX → ds.length = 1 ∧ wpS c__law_value (startE N__law_value ds) μ (outs μ.next Q QX) := by
  intro ds μ Q QX hw ho h
  unfold sp__law_value at h
  split at h
  · rename_i m
    refine ⟨rfl, ?_⟩
    have hi : ∀ i : Int, -2147483648 ≤ i → i ≤ 2147483647 → finP μ.next Q (.int i) μ := fun i h1 h2 => fin_same hw rfl (h _ (.inr ⟨i, h1, h2, rfl⟩))
    have hq : ∀ l, isText l = true → finP μ.next Q (strD l) μ := fun l hl => fin_same hw rfl (h _ (.inl ⟨l, hl, rfl⟩))
    have m1 : ∀ a : Int, 0 ≤ a.fmod 7 ∧ a.fmod 7 < 7 := fun a => fmod_lt (by omega)
    have m2 : ∀ a : Int, 0 ≤ a.fmod 4294967296 ∧ a.fmod 4294967296 < 4294967296 := fun a => fmod_lt (by omega)
    simp [startE, wpS, wpT, wpE, wpA, wpI, wpG, wpGs, wpOpt, spLen, spIsi, spInt, spStr, spTup, spLst, spMax, spApp, spFind, spSplit, spJoin, spDget, tn_str, tn_int, tn_bl, tn_non, tn_tup, tn_lst, tn_scr, td_str, td_lst, isB, tys, truD, cmpD, binD, slD, ixD, outs, eAllS, eAllN, eMaxD, eGin, eGinT, eGix, eRse, eCal0, drf, sq_tup, sq_lst, sq_scr, sq_str, sq_int, sq_non, l_lst, l_scr, l_tup, lm_lst, lm_str, lm_int, lm_tup, lm_non, lm_bl, eqOk_str, eqOk_int, eqOk_non, deq_int, deq_str, two_le, isNonD, tysOf, c__law_value, N__law_value, sp__law_text]
    split
    · have := m1 (m.fdiv 5)
      exact ⟨cdiv_small (by omega) (by omega), hi _ (by omega) (by omega)⟩
    · split
      · have := m2 (m * 5113 * 40503 + 12345)
        exact ⟨cmul_r (by omega) (by omega), cmul_r (by omega) (by omega), hi _ (by omega) (by omega)⟩
      · split
        · refine ⟨by rw [sizeLine_eq]; omega, cdiv_small (by omega) (by omega), ?_⟩
          obtain ⟨d, e, i, h1, h2, rfl⟩ := atI_all (P := fun d => ∃ i : Int, -2147483648 ≤ i ∧ i ≤ 2147483647 ∧ d = .int i) ints_ok (i := (m.fdiv 5).fmod 7) (m1 _)
          rw [e]
          exact hi i h1 h2
        · exact ⟨cdiv_small (by omega) (by omega), hq⟩
  · exact h.elim
theorem w__law_term : ∀ ds μ Q QX, μ.wf → objBs μ.next ds = true → sp__law_term ds μ Q QX → ds.length = 2 ∧ wpS c__law_term (startE N__law_term ds) μ (outs μ.next Q QX) := by
  intro ds μ Q QX hw ho h
  unfold sp__law_term at h
  split at h
  · rename_i m u
    refine ⟨rfl, ?_⟩
    obtain ⟨h0, h4, h⟩ := h
    have hq : ∀ d, termOk u d → finP μ.next Q d μ := fun d hd => fin_same hw (by
      rcases hd with ⟨m, _, _, _, rfl⟩ | ⟨l, _, rfl⟩ | ⟨i, _, _, rfl⟩ <;> rfl) (h d hd)
    have hpar : ∀ m : Int, 1 ≤ m → m ≤ u + 1 → m ≤ 4 → finP μ.next Q (.tup [.str "parameter", .int m]) μ := fun m h1 h2 h3 => hq _ (.inl ⟨m, h1, h2, h3, rfl⟩)
    simp [startE, wpS, wpT, wpE, wpA, wpI, wpG, wpGs, wpOpt, spLen, spIsi, spInt, spStr, spTup, spLst, spMax, spApp, spFind, spSplit, spJoin, spDget, tn_str, tn_int, tn_bl, tn_non, tn_tup, tn_lst, tn_scr, td_str, td_lst, isB, tys, truD, cmpD, binD, slD, ixD, outs, eAllS, eAllN, eMaxD, eGin, eGinT, eGix, eRse, eCal0, drf, sq_tup, sq_lst, sq_scr, sq_str, sq_int, sq_non, l_lst, l_scr, l_tup, lm_lst, lm_str, lm_int, lm_tup, lm_non, lm_bl, eqOk_str, eqOk_int, eqOk_non, deq_int, deq_str, two_le, isNonD, tysOf, c__law_term, N__law_term, sp__law_value]
    have fin : CDivN m 7 ∧ ∀ d, valOk d → match tyName d μ with
        | some a => if a = "str" then finP μ.next Q (.tup [.str "text", d]) μ else finP μ.next Q d μ
        | none => False := by
      refine ⟨cdiv_small (by omega) (by omega), fun d hd => ?_⟩
      rcases hd with ⟨l, hl, rfl⟩ | ⟨i, h1, h2, rfl⟩
      · exact hq _ (.inr (.inl ⟨l, hl, rfl⟩))
      · exact hq _ (.inr (.inr ⟨i, h1, h2, rfl⟩))
    have p2 : 0 < u → CDivN m 7 ∧ ¬u = 0 ∧ finP μ.next Q (.tup [.str "parameter", .int (1 + (m.fdiv 7).fmod u)]) μ := fun hu => by
      have := fmod_lt (a := m.fdiv 7) hu
      exact ⟨cdiv_small (by omega) (by omega), by omega, hpar _ (by omega) (by omega) (by omega)⟩
    repeat' split
    all_goals first | exact hpar _ (by omega) (by omega) (by omega) | exact p2 (by assumption) | exact fin
  · exact h.elim
theorem w__law_used : ∀ ds μ Q QX, μ.wf → objBs μ.next ds = true → sp__law_used ds μ Q QX → ds.length = 1 ∧ wpS c__law_used (startE N__law_used ds) μ (outs μ.next Q QX) := by
  intro ds μ Q QX hw ho h
  unfold sp__law_used at h
  split at h
  · rename_i d
    refine ⟨rfl, ?_⟩
    obtain ⟨xs, h1, h2, h3, h4⟩ := h
    have hq : finP μ.next Q (.int (maxI 0 (0 :: parNs xs))) μ := fin_same hw rfl h4
    simp [startE, wpS, wpT, wpE, wpA, wpI, wpG, wpGs, wpOpt, spLen, spIsi, spInt, spStr, spTup, spLst, spMax, spApp, spFind, spSplit, spJoin, spDget, tn_str, tn_int, tn_bl, tn_non, tn_tup, tn_lst, tn_scr, td_str, td_lst, isB, tys, truD, cmpD, binD, slD, ixD, outs, eAllS, eAllN, eMaxD, eGin, eGinT, eGix, eRse, eCal0, drf, sq_tup, sq_lst, sq_scr, sq_str, sq_int, sq_non, l_lst, l_scr, l_tup, lm_lst, lm_str, lm_int, lm_tup, lm_non, lm_bl, eqOk_str, eqOk_int, eqOk_non, deq_int, deq_str, two_le, isNonD, tysOf, c__law_used, N__law_used, wipeE]
    refine itD_of h1 fun gd hg => loopC_pure (fun x => (parN x).map D.int) hg (fun x hx N hN => ?_) (by simp; omega) ?_
    · have hx := List.all_eq_true.mp h3 x hx
      unfold okItemT at hx
      split at hx
      · simp [startE, wpS, wpT, wpE, wpA, wpI, wpG, wpGs, wpOpt, spLen, spIsi, spInt, spStr, spTup, spLst, spMax, spApp, spFind, spSplit, spJoin, spDget, tn_str, tn_int, tn_bl, tn_non, tn_tup, tn_lst, tn_scr, td_str, td_lst, isB, tys, truD, cmpD, binD, slD, ixD, outs, eAllS, eAllN, eMaxD, eGin, eGinT, eGix, eRse, eCal0, drf, sq_tup, sq_lst, sq_scr, sq_str, sq_int, sq_non, l_lst, l_scr, l_tup, lm_lst, lm_str, lm_int, lm_tup, lm_non, lm_bl, eqOk_str, eqOk_int, eqOk_non, deq_int, deq_str, two_le, isNonD, tysOf, atI_zero]
        exact hN
      · simp [startE, wpS, wpT, wpE, wpA, wpI, wpG, wpGs, wpOpt, spLen, spIsi, spInt, spStr, spTup, spLst, spMax, spApp, spFind, spSplit, spJoin, spDget, tn_str, tn_int, tn_bl, tn_non, tn_tup, tn_lst, tn_scr, td_str, td_lst, isB, tys, truD, cmpD, binD, slD, ixD, outs, eAllS, eAllN, eMaxD, eGin, eGinT, eGix, eRse, eCal0, drf, sq_tup, sq_lst, sq_scr, sq_str, sq_int, sq_non, l_lst, l_scr, l_tup, lm_lst, lm_str, lm_int, lm_tup, lm_non, lm_bl, eqOk_str, eqOk_int, eqOk_non, deq_int, deq_str, two_le, isNonD, tysOf, atI_zero]
        exact hN
      · rename_i k n hmem
        simp [startE, wpS, wpT, wpE, wpA, wpI, wpG, wpGs, wpOpt, spLen, spIsi, spInt, spStr, spTup, spLst, spMax, spApp, spFind, spSplit, spJoin, spDget, tn_str, tn_int, tn_bl, tn_non, tn_tup, tn_lst, tn_scr, td_str, td_lst, isB, tys, truD, cmpD, binD, slD, ixD, outs, eAllS, eAllN, eMaxD, eGin, eGinT, eGix, eRse, eCal0, drf, sq_tup, sq_lst, sq_scr, sq_str, sq_int, sq_non, l_lst, l_scr, l_tup, lm_lst, lm_str, lm_int, lm_tup, lm_non, lm_bl, eqOk_str, eqOk_int, eqOk_non, deq_int, deq_str, two_le, isNonD, tysOf, atI_zero, atI_one]
        simp only [parN] at hN
        split
        · rename_i e
          rw [if_pos e] at hN
          exact hN
        · rename_i e
          rw [if_neg e] at hN
          exact hN
      · rename_i k n hmem
        have e := of_decide_eq_true hx
        simp [startE, wpS, wpT, wpE, wpA, wpI, wpG, wpGs, wpOpt, spLen, spIsi, spInt, spStr, spTup, spLst, spMax, spApp, spFind, spSplit, spJoin, spDget, tn_str, tn_int, tn_bl, tn_non, tn_tup, tn_lst, tn_scr, td_str, td_lst, isB, tys, truD, cmpD, binD, slD, ixD, outs, eAllS, eAllN, eMaxD, eGin, eGinT, eGix, eRse, eCal0, drf, sq_tup, sq_lst, sq_scr, sq_str, sq_int, sq_non, l_lst, l_scr, l_tup, lm_lst, lm_str, lm_int, lm_tup, lm_non, lm_bl, eqOk_str, eqOk_int, eqOk_non, deq_int, deq_str, two_le, isNonD, tysOf, atI_zero, e]
        exact hN
      · cases hx
    · have e : xs.filterMap (fun x => (parN x).map D.int) = (parNs xs).map D.int := by
        unfold parNs
        rw [List.map_filterMap]
      have hl : (parNs xs).length ≤ xs.length := List.length_filterMap_le _ _
      rw [List.nil_append, e]
      simp [startE, wpS, wpT, wpE, wpA, wpI, wpG, wpGs, wpOpt, spLen, spIsi, spInt, spStr, spTup, spLst, spMax, spApp, spFind, spSplit, spJoin, spDget, tn_str, tn_int, tn_bl, tn_non, tn_tup, tn_lst, tn_scr, td_str, td_lst, isB, tys, truD, cmpD, binD, slD, ixD, outs, eAllS, eAllN, eMaxD, eGin, eGinT, eGix, eRse, eCal0, drf, sq_tup, sq_lst, sq_scr, sq_str, sq_int, sq_non, l_lst, l_scr, l_tup, lm_lst, lm_str, lm_int, lm_tup, lm_non, lm_bl, eqOk_str, eqOk_int, eqOk_non, deq_int, deq_str, two_le, isNonD, tysOf, ]
      refine ⟨by omega, by omega, 0 :: parNs xs, by simp, by simp, ?_⟩
      exact hq
  · exact h.elim
end M
end
section
namespace M
open PySem PySem.Spec PyProof.Rows L2
open SX (S S_len S_cat)
theorem Sto.put_put {μ : Sto} {k : Nat} {a b : Cell} : (μ.put k a).put k b = μ.put k b := by
  show (⟨μ.next, fun j => if j = k then some b else (if j = k then some a else μ.cell j)⟩ : Sto) = ⟨μ.next, fun j => if j = k then some b else μ.cell j⟩
  congr 1
  funext j
  by_cases h : j = k
  · rw [if_pos h, if_pos h]
  · rw [if_neg h, if_neg h, if_neg h]
end M
end
section
namespace M
open PySem PySem.Spec PyProof.Rows L2
open SX (S S_len S_cat)
def lowB : Nat → Int → List Int
  | 0, _ => []
  | c + 1, n => n.fmod 256 :: lowB c (n.fdiv 256)
theorem lowB_rev : ∀ (c : Nat) (n : Int), (lowB c n).reverse = bigB c n
  | 0, _ => rfl
  | c + 1, n => by
    show (n.fmod 256 :: lowB c (n.fdiv 256)).reverse = _
    rw [List.reverse_cons, lowB_rev c]
    rfl
def divN : Nat → Int → Int
  | 0, n => n
  | c + 1, n => divN c (n.fdiv 256)
theorem low_step : ∀ (c : Nat) (n : Int), lowB (c + 1) n = lowB c n ++ [(divN c n).fmod 256] ∧ divN (c + 1) n = (divN c n).fdiv 256
  | 0, n => ⟨rfl, rfl⟩
  | c + 1, n => by
    obtain ⟨h1, h2⟩ := low_step c (n.fdiv 256)
    refine ⟨?_, h2⟩
    show n.fmod 256 :: lowB (c + 1) (n.fdiv 256) = n.fmod 256 :: lowB c (n.fdiv 256) ++ [(divN c (n.fdiv 256)).fmod 256]
    rw [h1]
    rfl
theorem lowB_len : ∀ (c : Nat) (n : Int), (lowB c n).length = c
  | 0, _ => rfl
  | c + 1, n => by
    show (lowB c (n.fdiv 256)).length + 1 = c + 1
    rw [lowB_len]
theorem w_number_bytes : ∀ ds μ Q QX, μ.wf → objBs μ.next ds = true → sp_number_bytes ds μ Q QX → ds.length = 2 ∧ wpS c_number_bytes (startE N_number_bytes ds) μ (outs μ.next Q QX) := by
  intro ds μ Q QX hw ho h
  unfold sp_number_bytes at h
  split at h
  · rename_i n c
    obtain ⟨c0, c4, h1⟩ := h
    refine ⟨rfl, ?_⟩
    have hsz : sizeLine = 16777216 := sizeLine_eq
    obtain ⟨k, rfl⟩ : ∃ k : Nat, c = k := ⟨c.toNat, by omega⟩
    rw [Int.toNat_natCast] at h1
    simp [startE, wpS, wpT, wpE, wpA, wpI, wpG, wpGs, wpOpt, outs, wipeE, ePar, c_number_bytes, N_number_bytes]
    refine ⟨by omega, ?_⟩
    refine for_gen (fun i δ μ' => ∃ o3, δ = [some (.int (divN i n)), some (.int (k : Int)), some (.obj μ.next), o3] ∧ μ.Part μ' ∧ μ'.cell μ.next = some (.lst ((lowB i n).map .int))) ⟨none, rfl, part_mk hw (part_self hw), Sto.new_same⟩ ?_ ?_
    · rintro i x LW hx hLW δ μ' ⟨o3, rfl, q1, q2⟩
      obtain ⟨hi, rfl⟩ := intsD_at hx
      obtain ⟨e1, e2⟩ := low_step i n
      refine ⟨trivial, ?_⟩
      simp [startE, wpS, wpT, wpE, wpA, wpI, wpG, wpGs, wpOpt, outs, wipeE, ePar, b1_number_bytes, td_obj q2]
      refine ⟨by omega, ?_⟩
      show (match μ'.cell μ.next with
        | some (.lst xs) => xs.length < sizeLine ∧ (CDivN (divN i n) 256 ∧ LW _ (μ'.put μ.next (.lst (xs ++ [.int ((divN i n).fmod 256)]))))
        | _ => False)
      rw [q2]
      dsimp only
      refine ⟨by rw [List.length_map, lowB_len]; omega, cdiv_small (by omega) (by omega), ?_⟩
      exact hLW _ _ ⟨_, by rw [e2], part_put hw q1 (Nat.le_refl _), by rw [Sto.put_same, e1, List.map_append] <;> rfl⟩
    · rintro δ μ' ⟨o3, rfl, q1, q2⟩
      rw [intsD_len] at q2
      refine ⟨trivial, ?_⟩
      have e : asL (.obj μ.next) μ' = some ((lowB k n).map .int) := by
        unfold asL
        simp [asLM, q2]
      show eRev _ [.obj μ.next] μ' _ _
      unfold eRev
      dsimp only
      rw [e]
      dsimp only
      rw [← List.map_reverse, lowB_rev]
      exact fin_part q1 (objBs_mapW _ _ (fun _ => rfl) _) h1
  · exact h.elim
theorem it_SB {l : List Nat} {μ : Sto} {K : IPost} : itD (.str (S l)) μ K = K (l.map fun c => .str ⟨#[c]⟩) (fun _ => True) μ := by
  show K ((S l).cps.toList.map fun c => .str ⟨#[c]⟩) (fun _ => True) μ = _
  rw [S_cps]
theorem objB_intsL {n : Nat} {ds : List D} {l : List Int} (h : ds = l.map .int) : objB n (.lst ds) = true := by
  rw [h]
  exact objBs_mapW _ _ (fun _ => rfl) _
theorem objB_iL {n : Nat} (l : List Int) : objB n (intsL l) = true := objBs_mapW _ _ (fun _ => rfl) _
theorem add_iL {a b : List Int} {μ : Sto} {Q : Post} : binD .Add (intsL a) (intsL b) μ Q ↔ a.length + b.length ≤ sizeLine ∧ Q (intsL (a ++ b)) μ := by
  show ((a.map D.int).length + (b.map D.int).length ≤ sizeLine ∧ Q (.lst (a.map D.int ++ b.map D.int)) μ) ↔ _
  rw [List.length_map, List.length_map, ← List.map_append]
  exact Iff.rfl
theorem bigB_len : ∀ (c : Nat) (n : Int), (bigB c n).length = c
  | 0, _ => rfl
  | c + 1, n => by
    show (bigB c (n.fdiv 256) ++ [n.fmod 256]).length = _
    rw [List.length_append, bigB_len c]
    rfl
theorem w_string_bytes : ∀ ds μ Q QX, μ.wf → objBs μ.next ds = true → sp_string_bytes ds μ Q QX → ds.length = 1 ∧ wpS c_string_bytes (startE N_string_bytes ds) μ (outs μ.next Q QX) := by
  intro ds μ Q QX hw ho h
  unfold sp_string_bytes at h
  split at h
  · rename_i s
    obtain ⟨h1, h2⟩ := h
    obtain ⟨l, rfl⟩ := of_S s
    refine ⟨rfl, ?_⟩
    rw [S_len] at h1
    rw [S_cps] at h2
    have hsz : sizeLine = 16777216 := sizeLine_eq
    simp [startE, wpS, wpT, wpE, wpA, wpI, wpG, wpGs, wpOpt, outs, wipeE, ePar, c_string_bytes, N_string_bytes, spLen, S_len]
    refine ⟨by omega, by omega, ?_⟩
    rw [it_SB]
    refine loopC_sel (fun c : Nat => D.str ⟨#[c]⟩) (fun c : Nat => D.int (c : Int)) (fun _ => true) trivial (fun c _ N hN => ?_) (by omega) ?_
    · rw [if_pos rfl] at hN
      exact ⟨rfl, hN⟩
    · rw [List.filter_eq_self.mpr fun _ _ => rfl]
      show [D.int (l.length : Int)].length + (l.map fun c : Nat => D.int (c : Int)).length ≤ sizeLine ∧ finP μ.next Q (.lst ([D.int (l.length : Int)] ++ l.map fun c : Nat => D.int (c : Int))) μ
      refine ⟨by rw [List.length_map]; show 1 + l.length ≤ _; omega, fin_same hw (objB_intsL (l := textB l) ?_) ?_⟩
      · unfold textB
        rw [List.map_cons, List.map_map]
        rfl
      · have e : (.lst ([D.int (l.length : Int)] ++ l.map fun c : Nat => D.int (c : Int)) : D) = intsL (textB l) := by
          unfold intsL textB
          rw [List.map_cons, List.map_map]
          rfl
        rw [e]
        exact h2
  · exact h.elim
theorem textB_len (l : List Nat) : (textB l).length = l.length + 1 := by
  unfold textB
  rw [List.length_cons, List.length_map]
theorem w_value_bytes : ∀ ds μ Q QX, μ.wf → objBs μ.next ds = true → sp_value_bytes ds μ Q QX → ds.length = 1 ∧ wpS c_value_bytes (startE N_value_bytes ds) μ (outs μ.next Q QX) := by
  intro ds μ Q QX hw ho h
  unfold sp_value_bytes at h
  split at h
  · obtain ⟨k, rfl, h1, h2⟩ := h
    refine ⟨rfl, ?_⟩
    have hsz : sizeLine = 16777216 := sizeLine_eq
    cases k with
    | inl i =>
      simp [startE, wpS, wpT, wpE, wpA, wpI, wpG, wpGs, wpOpt, spLen, spIsi, spInt, spStr, spTup, spLst, spMax, spApp, spFind, spSplit, spJoin, spDget, tn_str, tn_int, tn_bl, tn_non, tn_tup, tn_lst, tn_scr, td_str, td_lst, isB, tys, truD, cmpD, binD, slD, ixD, outs, eAllS, eAllN, eMaxD, eGin, eGinT, eGix, eRse, eCal0, drf, sq_tup, sq_lst, sq_scr, sq_str, sq_int, sq_non, l_lst, l_scr, l_tup, lm_lst, lm_str, lm_int, lm_tup, lm_non, lm_bl, eqOk_str, eqOk_int, eqOk_non, deq_int, deq_str, two_le, isNonD, tysOf, c_value_bytes, N_value_bytes, keyD, sp_number_bytes]
      refine ⟨by omega, ?_⟩
      show [D.int 0].length + ((bigB 4 (i.fmod 4294967296)).map D.int).length ≤ sizeLine ∧ finP μ.next Q (intsL (kyB (.inl i))) μ
      exact ⟨by rw [List.length_map, bigB_len]; show 1 + 4 ≤ _; omega, fin_same hw (objB_iL _) h2⟩
    | inr x =>
      simp [startE, wpS, wpT, wpE, wpA, wpI, wpG, wpGs, wpOpt, spLen, spIsi, spInt, spStr, spTup, spLst, spMax, spApp, spFind, spSplit, spJoin, spDget, tn_str, tn_int, tn_bl, tn_non, tn_tup, tn_lst, tn_scr, td_str, td_lst, isB, tys, truD, cmpD, binD, slD, ixD, outs, eAllS, eAllN, eMaxD, eGin, eGinT, eGix, eRse, eCal0, drf, sq_tup, sq_lst, sq_scr, sq_str, sq_int, sq_non, l_lst, l_scr, l_tup, lm_lst, lm_str, lm_int, lm_tup, lm_non, lm_bl, eqOk_str, eqOk_int, eqOk_non, deq_int, deq_str, two_le, isNonD, tysOf, c_value_bytes, N_value_bytes, keyD, sp_string_bytes]
      have hx : x.length ≤ 1000 := h1
      refine ⟨by omega, hx, ?_⟩
      show [D.int 1].length + ((textB x.cps.toList).map D.int).length ≤ sizeLine ∧ finP μ.next Q (intsL (kyB (.inr x))) μ
      refine ⟨?_, fin_same hw (objB_iL _) h2⟩
      rw [List.length_map, textB_len]
      have : x.cps.toList.length = x.length := by
        obtain ⟨l, rfl⟩ := of_S x
        rw [S_cps, S_len]
      show 1 + (x.cps.toList.length + 1) ≤ _
      omega
  · exact h.elim
theorem kyB_len {k : Key} (h : smallK k) : (kyB k).length ≤ 1002 := by
  cases k with
  | inl i =>
    show (bigB 4 _).length + 1 ≤ 1002
    rw [bigB_len]
    omega
  | inr x =>
    show (textB x.cps.toList).length + 1 ≤ 1002
    rw [textB_len]
    have : x.cps.toList.length = x.length := by
      obtain ⟨l, rfl⟩ := of_S x
      rw [S_cps, S_len]
    have h : x.length ≤ 1000 := h
    omega
theorem flat_kyB {r : List Key} (h : ∀ k ∈ r, smallK k) : (r.flatMap kyB).length ≤ 1002 * r.length := by
  induction r with
  | nil => exact Nat.le_refl _
  | cons k r ih =>
    rw [List.flatMap_cons, List.length_append, List.length_cons]
    have := kyB_len (h k (by simp))
    have := ih fun k hk => h k (List.mem_cons_of_mem _ hk)
    omega
theorem w_row_bytes : ∀ ds μ Q QX, μ.wf → objBs μ.next ds = true → sp_row_bytes ds μ Q QX → ds.length = 1 ∧ wpS c_row_bytes (startE N_row_bytes ds) μ (outs μ.next Q QX) := by
  intro ds μ Q QX hw ho h
  unfold sp_row_bytes at h
  split at h
  · obtain ⟨r, rfl, h1, h2, h3⟩ := h
    refine ⟨rfl, ?_⟩
    have hsz : sizeLine = 16777216 := sizeLine_eq
    simp [startE, wpS, wpT, wpE, wpA, wpI, wpG, wpGs, wpOpt, outs, wipeE, ePar, c_row_bytes, N_row_bytes, spLen, tupK, sq_tup, List.length_map]
    refine ⟨by omega, ?_⟩
    rw [it_tup]
    refine for_gen (fun i δ μ' => ∃ o, δ = [some (tupK r), some (intsL ((r.length : Int) :: (r.take i).flatMap kyB)), o] ∧ μ' = μ) ⟨none, rfl, rfl⟩ ?_ ?_
    · rintro i x LW hx hLW δ μ' ⟨o, rfl, rfl⟩
      rw [List.getElem?_map] at hx
      obtain ⟨k, hk, rfl⟩ := Option.map_eq_some_iff.mp hx
      refine ⟨trivial, ?_⟩
      simp [startE, wpS, wpT, wpE, wpA, wpI, wpG, wpGs, wpOpt, outs, wipeE, ePar, b1_row_bytes]
      refine ⟨k, rfl, h2 k (List.mem_of_getElem? hk), ?_⟩
      refine add_iL.mpr ⟨?_, ?_⟩
      · have a1 := flat_kyB (r := r.take i) fun k hk => h2 k (List.mem_of_mem_take hk)
        have a2 := kyB_len (h2 k (List.mem_of_getElem? hk))
        have a3 : (r.take i).length ≤ 100 := by rw [List.length_take]; omega
        rw [List.length_cons]
        omega
      · refine hLW _ _ ⟨_, by rw [List.take_add_one, hk, List.flatMap_append]; simp; rfl, rfl⟩
    · rintro δ μ' ⟨o, rfl, rfl⟩
      rw [List.length_map, List.take_length]
      exact ⟨trivial, fin_same hw (objB_iL _) h3⟩
  · exact h.elim
theorem w_whole : ∀ ds μ Q QX, μ.wf → objBs μ.next ds = true → sp_whole ds μ Q QX → ds.length = 2 ∧ wpS c_whole (startE N_whole ds) μ (outs μ.next Q QX) := by
  intro ds μ Q QX hw ho h
  unfold sp_whole at h
  split at h
  · rename_i k d
    obtain ⟨b, rfl, h1, h2⟩ := h
    refine ⟨rfl, ?_⟩
    have hsz : sizeLine = 16777216 := sizeLine_eq
    have e1 : spLen [intsL b] μ = fun Q _ => Q (.int b.length) μ := by
      funext Q X
      unfold spLen intsL
      dsimp only
      rw [sq_lst]
      dsimp only
      rw [List.length_map]
    simp [startE, wpS, wpT, wpE, wpA, wpI, wpG, wpGs, wpOpt, outs, wipeE, ePar, c_whole, N_whole, e1]
    refine ⟨by omega, by omega, by omega, ?_⟩
    show binD .Add (intsL [k]) (intsL (bigB 2 b.length)) μ _
    refine add_iL.mpr ⟨by rw [bigB_len]; show 1 + 2 ≤ _; omega, ?_⟩
    refine add_iL.mpr ⟨by rw [List.length_append, bigB_len]; show 1 + 2 + _ ≤ _; omega, ?_⟩
    exact fin_same hw (objB_iL _) h2
  · exact h.elim
end M
end
section
namespace M
open PySem PySem.Spec PyProof.Rows L2
open SX (S S_len S_cat)
structure GT (q : List Nat → Bool) (l : List Nat) : Prop where
  n : l.length ≤ 255
  s : ∀ c ∈ l, c ∈ signsL
  q : q l = true
def GK : Key → Prop
  | .inl i => -2147483648 ≤ i ∧ i ≤ 2147483647
  | .inr x => GT isText x.cps.toList
end M
end
section
namespace M
open PySem PySem.Spec PyProof.Rows L2
open SX (S S_len S_cat)
def G32 (n : Int) : Prop := 0 ≤ n ∧ n < 4294967296
def GT' (q : List Nat → Bool) (x : Str) : Prop := GT q x.cps.toList
def GC : Ms → Prop
  | .two w a b => (w = "hello" ∨ w = "sync") ∧ G32 a ∧ G32 b
  | .cmd (.prepare n s) => GT' isName n ∧ GT' isStrg s
  | .cmd (.bind p n vs) => GT' isName p ∧ GT' isName n ∧ (∀ k ∈ vs, GK k) ∧ vs.length ≤ 4
  | .cmd (.run p k) => GT' isName p ∧ 0 ≤ k ∧ k ≤ 1000
  | .cmd (.forget n) => GT' isName n
  | .cmd (.close n) => GT' isName n
  | _ => False
def GS : Ms → Prop
  | .two w a b => w = "welcome" ∧ G32 a ∧ G32 b
  | .refused w => GT' isName w
  | .ready n s => G32 n ∧ (s = "none" ∨ s = "open" ∨ s = "failed")
  | .rep (.prepared n) => 0 ≤ n ∧ n ≤ 4
  | .rep (.complete n) => 0 ≤ n ∧ n ≤ 20
  | .rep (.wrong w) => GT' isWord w
  | .rep (.rows rs _) => rs.length ≤ 20 ∧ ∀ ks ∈ rs, (∀ k ∈ ks, GK k) ∧ 1 ≤ ks.length ∧ ks.length ≤ 2
  | .rep _ => True
  | _ => False
end M
end
section
namespace M
open PySem PySem.Spec PyProof.Rows L2
open SX (S S_len S_cat)
theorem msD_B (n : Nat) (m : Ms) : objB n (msD m) = true := by
  cases m with
  | cmd c =>
    cases c with
    | bind p m vs =>
      show (true && (true && (true && (objB n (tupK vs) && true)))) = true
      rw [tupK_B]
      rfl
    | _ => rfl
  | rep r => exact repD_B n r
  | _ => rfl
end M
end
section
namespace M
open PySem PySem.Spec PyProof.Rows L2
open SX (S S_len S_cat)
theorem wireC_B (n : Nat) (w : WD) : cellB n (wireC w) = true := by
  have : objBs n (w.l.map D.int) = true := objBs_map fun _ _ => rfl
  simp [wireC, cellB, objBs, objB, this]
theorem w_Wire___init__ : ∀ ds μ Q QX, μ.wf → objBs μ.next ds = true → sp_Wire___init__ ds μ Q QX → ds.length = 2 ∧ wpS c_Wire___init__ (startE N_Wire___init__ ds) μ (outs μ.next Q QX) := by
  intro ds μ Q QX hw ho h
  unfold sp_Wire___init__ at h
  split at h
  · rename_i k z
    obtain ⟨cl, rfl, hc, h1⟩ := h
    refine ⟨rfl, ?_⟩
    have hk := (hw _ _ hc).1
    have e : ∀ O : Outs, ∀ δ, eSet [13] "side" δ [.str (sideS cl), .obj k] μ O = O.nx δ (μ.put k (.ins 13 [("side", .str (sideS cl))])) := fun O δ => by simp (decide := true) [eSet, setD, insD, hc, setF]
    have e2 : ∀ O : Outs, ∀ δ, eSet [13] "_left" δ [.lst [], .obj k] (μ.put k (.ins 13 [("side", .str (sideS cl))])) O = O.nx δ (μ.put k (.ins 13 [("side", .str (sideS cl)), ("_left", .lst [])])) := fun O δ => by simp (decide := true) [eSet, setD, insD, Sto.put_same, setF, Sto.put_put]
    have e3 : ∀ O : Outs, ∀ δ, eSet [13] "_is_good" δ [.bl true, .obj k] (μ.put k (.ins 13 [("side", .str (sideS cl)), ("_left", .lst [])])) O = O.nx δ (μ.put k (wireC ⟨cl, [], true⟩)) := fun O δ => by simp (decide := true) [eSet, setD, insD, Sto.put_same, setF, Sto.put_put, wireC]
    simp [startE, wpS, wpT, wpE, wpA, wpI, wpG, wpGs, wpOpt, outs, wipeE, ePar, c_Wire___init__, N_Wire___init__, e, e2, e3]
    exact fin_all (wf_put hw hk (wireC_B _ _)) (Nat.le_refl _) rfl h1
  · exact h.elim
end M
end
section
namespace M
open PySem PySem.Spec PyProof.Rows L2
open SX (S S_len S_cat)
theorem HW.hd {μ : Sto} {k : Nat} {c : Cell} {L : Cells} (h : HW μ ((k, c) :: L)) : μ.cell k = some c := h.get (by simp)
theorem HW.put0 {μ : Sto} {k : Nat} {c c' : Cell} {L : Cells} (h : HW μ ((k, c) :: L)) (hc : cellB μ.next c' = true) : HW (μ.put k c') ((k, c') :: L) := HW.put (A := []) h hc
theorem HW.swap {μ : Sto} {p q : Nat × Cell} {L : Cells} (h : HW μ (p :: q :: L)) : HW μ (q :: p :: L) := h.perm (List.Perm.swap _ _ _)
theorem HW.new0 {μ : Sto} {c : Cell} {L : Cells} (h : HW μ L) (hc : cellB (μ.next + 1) c = true) : HW (μ.new c) ((μ.next, c) :: L) := HW.new (A := []) (B := L) h hc
theorem HW.del0 {μ : Sto} {k : Nat} {c : Cell} {L : Cells} (h : HW μ ((k, c) :: L)) : HW (μ.del k) L := by
  have nd := h.nd
  rw [List.map_cons, List.nodup_cons] at nd
  refine ⟨fun j d e => ?_, nd.2, fun p m => ?_⟩
  · by_cases hj : j = k
    · subst hj
      rw [Sto.del_same] at e
      cases e
    · rw [Sto.del_ne hj] at e
      exact h.wf j d e
  · rw [Sto.del_ne fun e => nd.1 (by rw [← e]; exact List.mem_map.mpr ⟨p, m, rfl⟩)]
    exact h.at_ p (by simp [m])
end M
end
section
namespace M
open PySem PySem.Spec PyProof.Rows L2
open SX (S S_len S_cat)
theorem wholeB_len (k : Int) (b : List Int) : (wholeB k b).length = b.length + 3 := by
  unfold wholeB
  rw [List.length_cons, List.length_append, bigB_len]
  omega
theorem GT.of_name {l : List Nat} (h : isName l = true) : GT isName l := by
  have hs : ∀ c ∈ lettersL, c ∈ signsL := by decide +kernel
  have h' := h
  unfold isName at h'
  simp only [Bool.and_eq_true, decide_eq_true_eq, List.all_eq_true] at h'
  exact ⟨by omega, fun c hc => hs c (h'.2 c hc), h⟩
theorem GT.of_strg {l : List Nat} (h : isStrg l = true) : GT isStrg l := by
  have h' := h
  unfold isStrg at h'
  simp only [Bool.and_eq_true, decide_eq_true_eq, List.all_eq_true] at h'
  exact ⟨by omega, fun c hc => h'.2 c hc, h⟩
theorem GT.of_text {l : List Nat} (h : isText l = true) : GT isText l := by
  have h' := h
  unfold isText at h'
  simp only [Bool.and_eq_true] at h'
  have g := GT.of_strg h'.1.1
  exact ⟨g.n, g.s, h⟩
theorem text_len {l : List Nat} (h : isText l = true) : l.length ≤ 40 := by
  unfold isText at h
  simp only [Bool.and_eq_true, decide_eq_true_eq] at h
  exact h.1.2
theorem GK.len {k : Key} (h : GK k) : (kyB k).length ≤ 42 := by
  cases k with
  | inl i =>
    show (0 :: bigB 4 _).length ≤ 42
    rw [List.length_cons, bigB_len]
    omega
  | inr x =>
    have g : GT isText x.cps.toList := h
    have := text_len g.q
    show (1 :: textB _).length ≤ 42
    rw [List.length_cons, textB_len]
    omega
theorem GK.flat {r : List Key} (h : ∀ k ∈ r, GK k) : (r.flatMap kyB).length ≤ 42 * r.length := by
  induction r with
  | nil => exact Nat.le_refl _
  | cons k r ih =>
    rw [List.flatMap_cons, List.length_append, List.length_cons]
    have := (h k (by simp)).len
    have := ih fun k hk => h k (List.mem_cons_of_mem _ hk)
    omega
theorem GT.tlen {q : List Nat → Bool} {x : Str} (h : GT' q x) : (textB x.cps.toList).length ≤ 256 := by
  have := GT.n (show GT q x.cps.toList from h)
  rw [textB_len]
  omega
theorem GC.len {m : Ms} (g : GC m) : (clientP m).2.length ≤ 4000 := by
  cases m with
  | two w a b =>
    show (bigB 4 a ++ bigB 4 b).length ≤ 4000
    rw [List.length_append, bigB_len, bigB_len]
    omega
  | cmd c =>
    cases c with
    | prepare n s =>
      obtain ⟨g1, g2⟩ : GT' isName n ∧ GT' isStrg s := g
      have := GT.tlen g1
      have := GT.tlen g2
      show (textB n.cps.toList ++ textB s.cps.toList).length ≤ 4000
      rw [List.length_append]
      omega
    | bind p n vs =>
      obtain ⟨g1, g2, g3, g4⟩ : GT' isName p ∧ GT' isName n ∧ (∀ k ∈ vs, GK k) ∧ vs.length ≤ 4 := g
      have := GT.tlen g1
      have := GT.tlen g2
      have := GK.flat g3
      show (textB p.cps.toList ++ textB n.cps.toList ++ ((vs.length : Int) :: vs.flatMap kyB)).length ≤ 4000
      rw [List.length_append, List.length_append, List.length_cons]
      omega
    | run p k =>
      obtain ⟨g1, g2, g3⟩ : GT' isName p ∧ 0 ≤ k ∧ k ≤ 1000 := g
      have := GT.tlen g1
      show (textB p.cps.toList ++ bigB 2 k).length ≤ 4000
      rw [List.length_append, bigB_len]
      omega
    | forget n =>
      have := GT.tlen (q := isName) (x := n) g
      show (textB n.cps.toList).length ≤ 4000
      omega
    | close n =>
      have := GT.tlen (q := isName) (x := n) g
      show (textB n.cps.toList).length ≤ 4000
      omega
  | _ => exact False.elim g
theorem rowsG_len {rs : List (List Key)} (h : ∀ ks ∈ rs, (∀ k ∈ ks, GK k) ∧ 1 ≤ ks.length ∧ ks.length ≤ 2) : (rs.flatMap rowB).length ≤ 85 * rs.length := by
  induction rs with
  | nil => exact Nat.le_refl _
  | cons r rs ih =>
    obtain ⟨g1, g2, g3⟩ := h r (by simp)
    have := GK.flat g1
    have := ih fun k hk => h k (List.mem_cons_of_mem _ hk)
    rw [List.flatMap_cons, List.length_append, List.length_cons]
    show ((r.length : Int) :: r.flatMap kyB).length + _ ≤ _
    rw [List.length_cons]
    omega
theorem GS.len {m : Ms} (g : GS m) : (serverP m).2.length ≤ 4000 := by
  cases m with
  | two w a b =>
    show (bigB 4 a ++ bigB 4 b).length ≤ 4000
    rw [List.length_append, bigB_len, bigB_len]
    omega
  | cmd c => exact False.elim g
  | refused w =>
    have := GT.tlen (q := isName) (x := w) g
    show (textB w.cps.toList).length ≤ 4000
    omega
  | ready n s =>
    show (bigB 4 n ++ [stIx s]).length ≤ 4000
    rw [List.length_append, bigB_len, List.length_singleton]
    omega
  | rep r =>
    cases r with
    | prepared n => exact (by decide : 1 ≤ 4000)
    | complete n => exact (by decide : 1 ≤ 4000)
    | wrong w =>
      have := GT.tlen (q := isWord) (x := w) g
      show (textB w.cps.toList).length ≤ 4000
      omega
    | rows rs more =>
      obtain ⟨g1, g2⟩ : rs.length ≤ 20 ∧ ∀ ks ∈ rs, (∀ k ∈ ks, GK k) ∧ 1 ≤ ks.length ∧ ks.length ≤ 2 := g
      have := rowsG_len g2
      show (_ :: (rs.length : Int) :: rs.flatMap rowB).length ≤ 4000
      rw [List.length_cons, List.length_cons]
      omega
    | bound => exact Nat.zero_le _
    | closed => exact Nat.zero_le _
    | skipped => exact Nat.zero_le _
end M
end
section
namespace M
open PySem PySem.Spec PyProof.Rows L2
open SX (S S_len S_cat)
def smallR (r : List Key) : Prop := r.length ≤ 100 ∧ ∀ k ∈ r, smallK k
def cliOk : Ms → Prop
  | .two w _ _ => w = "hello" ∨ w = "sync"
  | .cmd (.prepare n s) => n.length ≤ 1000 ∧ s.length ≤ 1000
  | .cmd (.bind p n vs) => p.length ≤ 1000 ∧ n.length ≤ 1000 ∧ smallR vs
  | .cmd (.run p _) => p.length ≤ 1000
  | .cmd (.forget n) => n.length ≤ 1000
  | .cmd (.close n) => n.length ≤ 1000
  | _ => False
def sp_client_bytes : Spec := fun ds μ Q _ => match ds with
  | [d] => ∃ m, d = msD m ∧ cliOk m ∧ Q (intsL (clientB m)) μ
  | _ => False
def N_client_bytes : List Str := ["message", "word", "body"]
def r2_client_bytes : IR := .seq (.ret (.cal "whole" sp_whole (.cons (.nod (fGidx "CLIENT_WORDS") (eGidx ["", "hello", "prepare", "bind", "run", "forget", "close", "sync"]) (.cons (.var 1) .nil)) (.cons (.var 2) .nil)))) (.nil)
def r1_client_bytes : IR := .seq (.ifS (.cmp .In (.var 1) (.tupC (.cons (.con (.str "hello")) (.cons (.con (.str "sync")) .nil)))) (.seq (.asg (.gN 2) (.bin .Add (.cal "number_bytes" sp_number_bytes (.cons (.ix (.var 0) (.con (.int 1))) (.cons (.con (.int 4)) .nil))) (.cal "number_bytes" sp_number_bytes (.cons (.ix (.var 0) (.con (.int 2))) (.cons (.con (.int 4)) .nil))))) (.nil)) (.seq (.ifS (.cmp .Eq (.var 1) (.con (.str "bind"))) (.seq (.asg (.gN 2) (.bin .Add (.bin .Add (.cal "string_bytes" sp_string_bytes (.cons (.ix (.var 0) (.con (.int 1))) .nil)) (.cal "string_bytes" sp_string_bytes (.cons (.ix (.var 0) (.con (.int 2))) .nil))) (.cal "row_bytes" sp_row_bytes (.cons (.ix (.var 0) (.con (.int 3))) .nil)))) (.nil)) (.seq (.ifS (.cmp .Eq (.var 1) (.con (.str "run"))) (.seq (.asg (.gN 2) (.bin .Add (.cal "string_bytes" sp_string_bytes (.cons (.ix (.var 0) (.con (.int 1))) .nil)) (.cal "number_bytes" sp_number_bytes (.cons (.ix (.var 0) (.con (.int 2))) (.cons (.con (.int 2)) .nil))))) (.nil)) (.seq (.ifS (.cmp .Eq (.var 1) (.con (.str "prepare"))) (.seq (.asg (.gN 2) (.bin .Add (.cal "string_bytes" sp_string_bytes (.cons (.ix (.var 0) (.con (.int 1))) .nil)) (.cal "string_bytes" sp_string_bytes (.cons (.ix (.var 0) (.con (.int 2))) .nil)))) (.nil)) (.seq (.asg (.gN 2) (.cal "string_bytes" sp_string_bytes (.cons (.ix (.var 0) (.con (.int 1))) .nil))) (.nil))) (.nil))) (.nil))) (.nil))) r2_client_bytes
def c_client_bytes : IR := .seq (.asg (.gN 1) (.ix (.var 0) (.con (.int 0)))) r1_client_bytes
end M
end
section
namespace M
open PySem PySem.Spec PyProof.Rows L2
open SX (S S_len S_cat)
theorem rowB_len {r : List Key} (h : smallR r) : (rowB r).length ≤ 100300 := by
  unfold rowB
  rw [List.length_cons]
  have := flat_kyB h.2
  have := h.1
  omega
theorem str_cps (x : Str) : x.cps.toList.length = x.length := by
  obtain ⟨l, rfl⟩ := of_S x
  rw [S_cps, S_len]
theorem cmp_in2 {z a b : Str} {μ : Sto} {Q : Bool → Prop} : cmpD .In (.str z) (.tup [.str a, .str b]) μ Q = Q (decide (a = z) || decide (b = z)) := by
  have e : ([D.str a, D.str b].any fun y => deq y (.str z)) = (decide (a = z) || decide (b = z)) := by
    rw [List.any_cons, List.any_cons, List.any_nil, Bool.or_false, deq_str, deq_str]
  show (eqOk (.str z) = true ∧ eqOk (.tup [.str a, .str b]) = true ∧ Q ([D.str a, D.str b].any fun y => deq y (.str z))) = _
  rw [e]
  exact propext ⟨fun h => h.2.2, fun h => ⟨rfl, rfl, h⟩⟩
theorem w_client_bytes : ∀ ds μ Q QX, μ.wf → objBs μ.next ds = true → sp_client_bytes ds μ Q QX → ds.length = 1 ∧ wpS c_client_bytes (startE N_client_bytes ds) μ (outs μ.next Q QX) := by
  intro ds μ Q QX hw ho h
  unfold sp_client_bytes at h
  split at h
  · obtain ⟨m, rfl, h1, h2⟩ := h
    refine ⟨rfl, ?_⟩
    have hsz : sizeLine = 16777216 := sizeLine_eq
    have fin : ∀ (z : Str) (k : Nat) (b : List Int), firstAt z ["", "hello", "prepare", "bind", "run", "forget", "close", "sync"] = some k → b.length ≤ 1000000 → ((k : Int), b) = clientP m → wpS r2_client_bytes [some (msD m), some (.str z), some (intsL b)] μ (outs μ.next Q QX) := fun z k b e1 e2 e3 => by
      simp [startE, wpS, wpT, wpE, wpA, wpI, wpG, wpGs, wpOpt, outs, wipeE, ePar, r2_client_bytes, eGidx, e1]
      refine ⟨b, rfl, by omega, ?_⟩
      have : clientB m = wholeB k b := by
        unfold clientB
        rw [← e3]
      rw [← this]
      exact fin_same hw (objB_iL _) h2
    have hl : ∀ x : Str, (textB x.cps.toList).length = x.length + 1 := fun x => by rw [textB_len, str_cps]
    cases m with
    | two w a b =>
      have h1 : w = "hello" ∨ w = "sync" := h1
      rcases h1 with rfl | rfl
      · simp (decide := true) [startE, wpS, wpT, wpE, wpA, wpI, wpG, wpGs, wpOpt, outs, wipeE, ePar, c_client_bytes, N_client_bytes, msD, cmdD, ixt_0, ixt_1, ixt_2, ixt_3, r1_client_bytes, cmp_in2, cmp_eq_str, sp_string_bytes, sp_number_bytes]
        refine add_iL.mpr ⟨by rw [bigB_len, bigB_len]; omega, fin "hello" 1 _ rfl (by rw [List.length_append, bigB_len, bigB_len]; omega) rfl⟩
      · simp (decide := true) [startE, wpS, wpT, wpE, wpA, wpI, wpG, wpGs, wpOpt, outs, wipeE, ePar, c_client_bytes, N_client_bytes, msD, cmdD, ixt_0, ixt_1, ixt_2, ixt_3, r1_client_bytes, cmp_in2, cmp_eq_str, sp_string_bytes, sp_number_bytes]
        refine add_iL.mpr ⟨by rw [bigB_len, bigB_len]; omega, fin "sync" 7 _ rfl (by rw [List.length_append, bigB_len, bigB_len]; omega) rfl⟩
    | cmd c =>
      cases c with
      | prepare n s =>
        obtain ⟨a1, a2⟩ : n.length ≤ 1000 ∧ s.length ≤ 1000 := h1
        simp (decide := true) [startE, wpS, wpT, wpE, wpA, wpI, wpG, wpGs, wpOpt, outs, wipeE, ePar, c_client_bytes, N_client_bytes, msD, cmdD, ixt_0, ixt_1, ixt_2, ixt_3, r1_client_bytes, cmp_in2, cmp_eq_str, sp_string_bytes, sp_number_bytes]
        refine ⟨a1, a2, add_iL.mpr ⟨by rw [hl, hl]; omega, fin "prepare" 2 _ rfl (by rw [List.length_append, hl, hl]; omega) rfl⟩⟩
      | bind p n vs =>
        obtain ⟨a1, a2, a3⟩ : p.length ≤ 1000 ∧ n.length ≤ 1000 ∧ smallR vs := h1
        have a4 := rowB_len a3
        simp (decide := true) [startE, wpS, wpT, wpE, wpA, wpI, wpG, wpGs, wpOpt, outs, wipeE, ePar, c_client_bytes, N_client_bytes, msD, cmdD, ixt_0, ixt_1, ixt_2, ixt_3, r1_client_bytes, cmp_in2, cmp_eq_str, sp_string_bytes, sp_number_bytes]
        refine ⟨a1, a2, add_iL.mpr ⟨by rw [hl, hl]; omega, ?_⟩⟩
        refine ⟨vs, rfl, a3.1, a3.2, ?_⟩
        exact add_iL.mpr ⟨by rw [List.length_append, hl, hl]; omega, fin "bind" 3 _ rfl (by rw [List.length_append, List.length_append, hl, hl]; omega) rfl⟩
      | run p k =>
        have a1 : p.length ≤ 1000 := h1
        simp (decide := true) [startE, wpS, wpT, wpE, wpA, wpI, wpG, wpGs, wpOpt, outs, wipeE, ePar, c_client_bytes, N_client_bytes, msD, cmdD, ixt_0, ixt_1, ixt_2, ixt_3, r1_client_bytes, cmp_in2, cmp_eq_str, sp_string_bytes, sp_number_bytes]
        refine ⟨a1, add_iL.mpr ⟨by rw [hl, bigB_len]; omega, fin "run" 4 _ rfl (by rw [List.length_append, hl, bigB_len]; omega) rfl⟩⟩
      | forget n =>
        have a1 : n.length ≤ 1000 := h1
        simp (decide := true) [startE, wpS, wpT, wpE, wpA, wpI, wpG, wpGs, wpOpt, outs, wipeE, ePar, c_client_bytes, N_client_bytes, msD, cmdD, ixt_0, ixt_1, ixt_2, ixt_3, r1_client_bytes, cmp_in2, cmp_eq_str, sp_string_bytes, sp_number_bytes]
        exact ⟨a1, fin "forget" 5 _ rfl (by rw [hl]; omega) rfl⟩
      | close n =>
        have a1 : n.length ≤ 1000 := h1
        simp (decide := true) [startE, wpS, wpT, wpE, wpA, wpI, wpG, wpGs, wpOpt, outs, wipeE, ePar, c_client_bytes, N_client_bytes, msD, cmdD, ixt_0, ixt_1, ixt_2, ixt_3, r1_client_bytes, cmp_in2, cmp_eq_str, sp_string_bytes, sp_number_bytes]
        exact ⟨a1, fin "close" 6 _ rfl (by rw [hl]; omega) rfl⟩
    | _ => exact False.elim h1
  · exact h.elim
end M
end
section
namespace M
open PySem PySem.Spec PyProof.Rows L2
open SX (S S_len S_cat)
theorem len_iL {b : List Int} {μ : Sto} : spLen [intsL b] μ = fun Q _ => Q (.int b.length) μ := by
  funext Q X
  unfold spLen intsL
  dsimp only
  rw [sq_lst]
  dsimp only
  rw [List.length_map]
end M
end
section
namespace M
open PySem PySem.Spec PyProof.Rows L2
open SX (S S_len S_cat)
structure CL where
  ph : Str
  why : Option Str
  snd : List Int
  w : WD
  ses : Int
  cmds : List Cmd
  bats : List (List Cmd)
  outs : List (Str × List Rp)
  reps : List Rp
def w0 (cl : Bool) : WD := ⟨cl, [], true⟩
def initL : CL := ⟨"closed", none, [], w0 false, 0, [], [], [], []⟩
def sendL (m : Ms) (L : CL) : CL := { L with snd := L.snd ++ clientB m }
def addL (c : Cmd) (L : CL) : CL := { L with cmds := L.cmds ++ [c] }
def batB (cs : List Cmd) (n k : Nat) : List Int := (cs.flatMap fun c => clientB (.cmd c)) ++ clientB (.two "sync" n k)
def sendBat (n : Nat) (L : CL) : CL := { L with snd := L.snd ++ batB (L.bats[n - 1]?.getD []) n L.outs.length }
def handL (L : CL) : CL := { L with bats := L.bats ++ [L.cmds], cmds := [] }
def syncL (L : CL) : CL := if L.ph = "open" then sendBat (L.bats.length + 1) (handL L) else handL L
def awaitL (L : CL) : Option (List Cmd) := if L.outs.length = L.bats.length then none else L.bats[L.outs.length]?
def actS (p : Str) : Bool := decide (p = "greeting") || decide (p = "open")
def actL (L : CL) : Bool := actS L.ph
def GCs (cs : List Cmd) : Prop := cs.length ≤ 20 ∧ ∀ c ∈ cs, GC (.cmd c)
def limS (p : Str) (n : Nat) : Nat := if p = "greeting" then 11 else if p = "open" then 11 + 90000 * n else 0
structure okL (L : CL) : Prop where
  ph : L.ph = "closed" ∨ L.ph = "greeting" ∨ L.ph = "open" ∨ L.ph = "ended"
  c : GCs L.cmds
  bl : L.bats.length ≤ 50
  b : ∀ cs ∈ L.bats, GCs cs
  o : L.outs.length ≤ L.bats.length
  ol : ∀ t ∈ L.outs, t.2.length ≤ 20
  r : L.reps.length ≤ ((awaitL L).getD []).length
  wc : L.w.cl = false
  w : actL L = true → L.w.ok = true ∧ bytesOk L.w.l ∧ L.w.l.length ≤ 4002
  s : L.snd.length ≤ limS L.ph L.bats.length
theorem okL.s5 {L : CL} (h : okL L) : L.snd.length ≤ 4500011 := by
  have h1 := h.s
  have h2 := h.bl
  unfold limS at h1
  split at h1
  · omega
  · split at h1 <;> omega
theorem init_ok : okL initL where
  ph := .inl rfl
  c := ⟨Nat.zero_le _, fun c m => by cases m⟩
  bl := Nat.zero_le _
  b := fun cs m => by cases m
  o := Nat.le_refl _
  ol := fun t m => by cases m
  r := Nat.le_refl _
  wc := rfl
  w := fun h => by cases h
  s := Nat.zero_le _
theorem add_ok {L : CL} {c : Cmd} (h : okL L) (hl : L.cmds.length ≠ 20) (hc : GC (.cmd c)) : okL (addL c L) where
  ph := h.ph
  c := by
    refine ⟨?_, fun x m => ?_⟩
    · show (L.cmds ++ [c]).length ≤ 20
      have := h.c.1
      rw [List.length_append, List.length_singleton]
      omega
    · rcases List.mem_append.mp m with m | m
      · exact h.c.2 x m
      · rw [List.mem_singleton.mp m]
        exact hc
  bl := h.bl
  b := h.b
  o := h.o
  ol := h.ol
  r := h.r
  wc := h.wc
  w := h.w
  s := h.s
theorem cliB_len {m : Ms} (h : GC m) : (clientB m).length ≤ 4003 := by
  have := h.len
  unfold clientB
  rw [wholeB_len]
  omega
theorem cliF_len {cs : List Cmd} {n : Nat} (h : ∀ c ∈ cs, GC (.cmd c)) (hl : cs.length ≤ n) : (cs.flatMap fun c => clientB (.cmd c)).length ≤ 4003 * n := by
  induction cs generalizing n with
  | nil => exact Nat.zero_le _
  | cons c cs ih =>
    obtain ⟨m, rfl⟩ : ∃ m, n = m + 1 := ⟨n - 1, by rw [List.length_cons] at hl; omega⟩
    rw [List.flatMap_cons, List.length_append]
    have := ih (n := m) (fun x m => h x (by simp [m])) (by rw [List.length_cons] at hl; omega)
    have := cliB_len (h c (by simp))
    omega
theorem batB_len {cs : List Cmd} {n k : Nat} (h : GCs cs) : (batB cs n k).length ≤ 90000 := by
  unfold batB
  rw [List.length_append]
  have := cliF_len h.2 h.1
  have : (clientB (.two "sync" n k)).length = 11 := by
    show (wholeB 7 (bigB 4 _ ++ bigB 4 _)).length = 11
    rw [wholeB_len, List.length_append, bigB_len, bigB_len]
  omega
theorem getD_bat {L : CL} (h : okL L) (n : Nat) : GCs (L.bats[n]?.getD []) := by
  cases e : L.bats[n]? with
  | none => exact ⟨Nat.zero_le _, fun c m => by cases m⟩
  | some cs => exact h.b cs (List.mem_of_getElem? e)
theorem await_hand {L : CL} (h : okL L) : L.reps.length ≤ ((awaitL (handL L)).getD []).length := by
  have hr := h.r
  have ho := h.o
  unfold awaitL at hr ⊢
  show L.reps.length ≤ ((if L.outs.length = (L.bats ++ [L.cmds]).length then none else (L.bats ++ [L.cmds])[L.outs.length]?).getD []).length
  rw [List.length_append, List.length_singleton, if_neg (by omega)]
  by_cases e : L.outs.length = L.bats.length
  · rw [if_pos e] at hr
    have : L.reps.length = 0 := Nat.le_zero.mp hr
    omega
  · rw [if_neg e] at hr
    rw [List.getElem?_append_left (by omega)]
    exact hr
theorem hand_ok {L : CL} (h : okL L) (hl : L.bats.length ≠ 50) : okL (handL L) where
  ph := h.ph
  c := ⟨Nat.zero_le _, fun c m => by cases m⟩
  bl := by
    show (L.bats ++ [L.cmds]).length ≤ 50
    have := h.bl
    rw [List.length_append, List.length_singleton]
    omega
  b := fun cs m => by
    rcases List.mem_append.mp m with m | m
    · exact h.b cs m
    · rw [List.mem_singleton.mp m]
      exact h.c
  o := by
    show L.outs.length ≤ (L.bats ++ [L.cmds]).length
    have := h.o
    rw [List.length_append]
    omega
  ol := h.ol
  r := await_hand h
  wc := h.wc
  w := h.w
  s := by
    have := h.s
    show L.snd.length ≤ limS L.ph (L.bats ++ [L.cmds]).length
    rw [List.length_append]
    unfold limS at this ⊢
    split
    · rename_i e
      rw [if_pos e] at this
      exact this
    · rename_i e
      rw [if_neg e] at this
      split
      · rename_i e2
        rw [if_pos e2] at this
        omega
      · rename_i e2
        rw [if_neg e2] at this
        exact this
theorem sync_ok {L : CL} (h : okL L) (hl : L.bats.length ≠ 50) : okL (syncL L) := by
  unfold syncL
  split
  · rename_i e
    have h2 := hand_ok h hl
    refine { ph := h2.ph, c := h2.c, bl := h2.bl, b := h2.b, o := h2.o, ol := h2.ol, r := h2.r, wc := h2.wc, w := h2.w, s := ?_ }
    have hs := h.s
    show (L.snd ++ batB _ _ _).length ≤ limS L.ph (L.bats ++ [L.cmds]).length
    have := batB_len (n := L.bats.length + 1) (k := L.outs.length) (getD_bat h2 (L.bats.length + 1 - 1))
    rw [e] at hs ⊢
    show (L.snd ++ batB _ _ _).length ≤ 11 + 90000 * (L.bats ++ [L.cmds]).length
    have hs : L.snd.length ≤ 11 + 90000 * L.bats.length := hs
    rw [List.length_append, List.length_append, List.length_singleton]
    have e2 : (handL L).outs.length = L.outs.length := rfl
    rw [e2]
    omega
  · exact hand_ok h hl
def onW (w : WD) (L : CL) : CL := { L with w := w }
theorem okL.on {L : CL} (h : okL L) (w : WD) (hc : w.cl = false) (hg : actL L = true → w.ok = true ∧ bytesOk w.l ∧ w.l.length ≤ 4002) : okL (onW w L) :=
  { ph := h.ph, c := h.c, bl := h.bl, b := h.b, o := h.o, ol := h.ol, r := h.r, wc := hc, w := hg, s := h.s }
end M
end
section
namespace M
open PySem PySem.Spec PyProof.Rows L2
def isCpr : IR → Bool
  | .cpr _ _ _ _ _ => true
  | _ => false
def fCpM (c : IR) : XF := fun N sc t e => if (isCpr c && chkE N c sc t e) = true then some [] else none
def eCpM (c : IR) : EvE := fun δ _ μ Q X => match c with
  | .cpr own g it t e => wpI it δ μ (fun xs gd μ1 => loopC (fun x μ N => wpG g x (wipeE δ (own.map (·.2))) μ fun δ2 μ2 => wpT t δ2 μ2 (fun b μ3 => if b = true then wpE e δ2 μ3 (fun y μ4 => N (some y) μ4) (fun _ _ => False) else N none μ3) (fun _ _ => False)) gd (fun ys μ2 => Q (.obj μ2.next) (μ2.new (.lst ys))) xs [] μ1) X
  | _ => False
section
variable {X : Cx} {T : List Addr} {cls : Nat → Addr} {Wx : WX}
variable {elt tg iter : Expr} {ifs : List Expr} {scope : Scope} {own : List (Str × Nat)} {pos : Pos} {cg ci ct ce : IR}
theorem lc_readM {σ : L2.St} {H : Hp} {Q : VK} (hsl : ∀ j ∈ slotsG cg, j ∈ own.map (·.2)) (h : DE (wd X T cls) Wx (.nod (fCpM (.cpr own cg ci ct ce)) (eCpM (.cpr own cg ci ct ce)) .nil) σ H Q) :
    tLc (DI (wd X T cls) Wx ci) (DG (wd X T cls) cg) (DT (wd X T cls) W0 ct) (DE (wd X T cls) W0 ce) (own.map (·.2)) σ H Q := by
  obtain ⟨S, δ, QM, QX, rfl, R, hE, hw, hq, hx⟩ := h
  simp only [wpE, wpA, eCpM] at hw
  refine ⟨S, δ, _, QX, rfl, R, hE, hw, fun S1 J ds gd l1 R1 hJ w1 => ?_, hx⟩
  intro D hD
  have pvD : S1.pv D = none := by
    cases e : S1.pv D with
    | none => rfl
    | some o =>
      have := (R1.prv D o e).1
      rw [hD] at this
      cases this
  obtain ⟨lk, Rk⟩ := R1.keep (o := .lst []) hD
  refine ⟨fun i m H' => ∃ S2 acc vs, S2.H = H' ∧ S1.vw.le S2.vw ∧ S2.pv = upd S1.pv D (.lst vs) ∧ Rl (wd X T cls) S2 ∧ Reps X.K S2.vw acc vs ∧ i ≤ ds.length ∧ m = ds.length - i ∧
      loopC (fun x μ N => wpG cg x (wipeE δ (own.map (·.2))) μ fun δ2 μ2 => wpT ct δ2 μ2 (fun b μ3 => if b = true then wpE ce δ2 μ3 (fun y μ4 => N (some y) μ4) (fun _ _ => False) else N none μ3) (fun _ _ => False)) gd (fun ys μ2 => QM (.obj μ2.next) (μ2.new (.lst ys))) (ds.drop i) acc S2.μ,
    ⟨ds.length, _, [], [], rfl, lk, rfl, Rk, rfl, Nat.zero_le _, rfl, w1⟩, ?_⟩
  rintro i m H' ⟨S2, acc, vs, rfl, l2, hpv, R2, ra, hi, rfl, w2⟩
  by_cases hlt : i < ds.length
  · have ed : ds.drop i = ds[i] :: ds.drop (i + 1) := List.drop_eq_getElem_cons hlt
    rw [ed] at w2
    obtain ⟨g2, w2⟩ := w2
    obtain ⟨_, hgo⟩ := hJ S2 l2 R2 g2
    obtain ⟨go, hy⟩ := hgo i hlt
    refine .inr ⟨go, _, fun H3 h => h, fun x H3 y => ?_⟩
    obtain ⟨S3, d, l3, R3, rfl, em, e3, r3⟩ := hy x H3 y
    rw [List.getElem?_eq_getElem hlt] at e3
    cases e3
    rw [← em] at w2
    have fin : ∀ {S' : Ss} {acc' vs'}, S3.vw.le S'.vw → S'.pv = upd S1.pv D (.lst vs') → Rl (wd X T cls) S' → Reps X.K S'.vw acc' vs' → loopC (fun x μ N => wpG cg x (wipeE δ (own.map (·.2))) μ fun δ2 μ2 => wpT ct δ2 μ2 (fun b μ3 => if b = true then wpE ce δ2 μ3 (fun y μ4 => N (some y) μ4) (fun _ _ => False) else N none μ3) (fun _ _ => False)) gd (fun ys μ2 => QM (.obj μ2.next) (μ2.new (.lst ys))) (ds.drop (i + 1)) acc' S'.μ →
        ∃ m', m' < ds.length - i ∧ ∃ S2 acc vs, S2.H = S'.H ∧ S1.vw.le S2.vw ∧ S2.pv = upd S1.pv D (.lst vs) ∧ Rl (wd X T cls) S2 ∧ Reps X.K S2.vw acc vs ∧ i + 1 ≤ ds.length ∧ m' = ds.length - (i + 1) ∧
          loopC (fun x μ N => wpG cg x (wipeE δ (own.map (·.2))) μ fun δ2 μ2 => wpT ct δ2 μ2 (fun b μ3 => if b = true then wpE ce δ2 μ3 (fun y μ4 => N (some y) μ4) (fun _ _ => False) else N none μ3) (fun _ _ => False)) gd (fun ys μ2 => QM (.obj μ2.next) (μ2.new (.lst ys))) (ds.drop (i + 1)) acc S2.μ :=
      fun {S' acc' vs'} l hp R' r' w' => ⟨ds.length - (i + 1), by omega, S', acc', vs', rfl, (l2.trans l3.1).trans l, hp, R', r', hlt, rfl, w'⟩
    refine ⟨S3, wipeE δ (own.map (·.2)), ds[i], _, rfl, R3, (hE.mono (l1.1.trans (l2.trans l3.1))).wipe _, r3, w2, fun S4 δ4 σ4 l4 R4 E4 a4 w4 => ⟨wipe_back a4.1 fun j hj => a4.2 j fun z => hj (hsl j z), S4, δ4, _, _, rfl, R4, E4, w4, fun S5 b l5 R5 w5 => ?_, afx_no⟩⟩
    cases b with
    | true =>
      rw [if_pos rfl] at w5 ⊢
      refine ⟨S5, δ4, _, _, rfl, R5, E4.mono l5.1, w5, fun S6 yd yv l6 R6 r6 w6 => ?_, afx_no⟩
      have pv6 : S6.pv = upd S1.pv D (.lst vs) := by rw [l6.2, l5.2, l4.2, l3.2, hpv]
      have at6 : S6.pv D = some (.lst vs) := by rw [pv6]; exact upd_same
      have l26 : S2.vw.le S6.vw := ((l3.1.trans l4.1).trans l5.1).trans l6.1
      obtain ⟨hz, w6⟩ := w6
      refine ⟨vs, (R6.prv D _ at6).1, by rw [ra.length]; exact hz, ?_⟩
      obtain ⟨l7, R7⟩ := R6.rekeep (o := .lst (vs ++ [yv])) at6
      refine fin (S' := { S6 with H := upd S6.H D (.lst (vs ++ [yv])), pv := upd S6.pv D (.lst (vs ++ [yv])) }) (vs' := vs ++ [yv]) ((l4.1.trans (l5.1.trans l6.1)).trans l7) ?_ R7 (((ra.mono l26).append (Reps.one r6)).mono l7) w6
      show upd S6.pv D _ = _
      rw [pv6, upd_upd]
    | false =>
      rw [if_neg Bool.false_ne_true] at w5 ⊢
      exact fin (l4.1.trans l5.1) (by rw [l5.2, l4.2, l3.2, hpv]) R5 (ra.mono ((l3.1.trans l4.1).trans l5.1)) w5
  · have e : i = ds.length := by omega
    subst e
    rw [List.drop_length] at w2
    obtain ⟨g2, w2⟩ := w2
    refine .inl ⟨(hJ S2 l2 R2 g2).1, ?_⟩
    have at2 : S2.pv D = some (.lst vs) := by rw [hpv]; exact upd_same
    have sub : ∀ a o, S1.pv a = some o → S2.pv a = some o := fun a o e => by
      rw [hpv]
      by_cases ha : a = D
      · rw [ha, pvD] at e
        cases e
      · rw [upd_ne ha]
        exact e
    have hDD := (R2.prv D _ at2).1
    have hnc := (R2.prv D _ at2).2
    -- the list becomes a cell
    have own : ∀ b, Ss.own { S2 with pv := S1.pv, ρ := newρ S2.ρ S2.μ.next D, μ := S2.μ.new (.lst acc) } b ↔ S2.own b := fun b => by
      constructor
      · rintro (⟨k, c, h1, h2⟩ | ⟨o, h1⟩)
        · have h1 : (S2.μ.new (.lst acc)).cell k = some c := h1
          have h2 : newρ S2.ρ S2.μ.next D k = b := h2
          by_cases hk : k = S2.μ.next
          · rw [hk, newρ_same] at h2
            exact .inr ⟨_, by rw [← h2]; exact at2⟩
          · rw [Sto.new_ne hk] at h1
            rw [newρ_ne hk] at h2
            exact .inl ⟨k, c, h1, h2⟩
        · exact .inr ⟨o, sub b o h1⟩
      · rintro (⟨k, c, h1, h2⟩ | ⟨o, h1⟩)
        · have hk : k ≠ S2.μ.next := Nat.ne_of_lt (R2.lt k c h1)
          exact .inl ⟨k, c, (Sto.new_ne hk).trans h1, (newρ_ne hk).trans h2⟩
        · by_cases hb : b = D
          · exact .inl ⟨S2.μ.next, .lst acc, Sto.new_same, newρ_same.trans hb.symm⟩
          · rw [hpv, upd_ne hb] at h1
            exact .inr ⟨o, h1⟩
    have eh : hid { S2 with pv := S1.pv, ρ := newρ S2.ρ S2.μ.next D, μ := S2.μ.new (.lst acc) } = hid S2 := hid_same own fun _ _ => rfl
    have lv : S2.vw.le (Ss.vw { S2 with pv := S1.pv, ρ := newρ S2.ρ S2.μ.next D, μ := S2.μ.new (.lst acc) }) := by
      refine ⟨?_, fun k hk => newρ_ne (Nat.ne_of_lt hk), Nat.le_succ _⟩
      show Ext (hid S2) (hid _)
      rw [eh]
      exact Ext.refl _
    have cs : ∀ {j d}, (S2.μ.new (.lst acc)).cell j = some d → (j = S2.μ.next ∧ d = .lst acc) ∨ (j ≠ S2.μ.next ∧ S2.μ.cell j = some d) := fun {j d} e => by
      by_cases hj : j = S2.μ.next
      · subst hj
        rw [Sto.new_same] at e
        cases e
        exact .inl ⟨rfl, rfl⟩
      · rw [Sto.new_ne hj] at e
        exact .inr ⟨hj, e⟩
    have R3 : Rl (wd X T cls) { S2 with pv := S1.pv, ρ := newρ S2.ρ S2.μ.next D, μ := S2.μ.new (.lst acc) } := by
      refine ⟨fun i j d e h1 h2 h3 => ?_, fun j d e => ?_, fun j d e => ?_, fun a ha => by rw [eh]; exact R2.tab a ha, fun a o e => ⟨(R2.prv a o (sub a o e)).1, fun k c h1 => ?_⟩, by rw [eh]; exact R2.lam⟩
      · have h3 : newρ S2.ρ S2.μ.next D i = newρ S2.ρ S2.μ.next D j := h3
        rcases cs h1 with ⟨e1, _⟩ | ⟨n1, e1⟩ <;> rcases cs h2 with ⟨e2, _⟩ | ⟨n2, e2⟩
        · rw [e1, e2]
        · rw [e1, newρ_same, newρ_ne n2] at h3
          exact absurd h3.symm (hnc j _ e2)
        · rw [e2, newρ_same, newρ_ne n1] at h3
          exact absurd h3 (hnc i _ e1)
        · rw [newρ_ne n1, newρ_ne n2] at h3
          exact R2.inj i j d e e1 e2 h3
      · rcases cs e with ⟨e1, _⟩ | ⟨n1, e1⟩
        · rw [e1]
          exact Nat.lt_succ_self _
        · exact Nat.lt_succ_of_lt (R2.lt j d e1)
      · rcases cs e with ⟨e1, e2⟩ | ⟨n1, e1⟩
        · subst e1 e2
          show CellOk _ _ _ (newρ S2.ρ S2.μ.next D S2.μ.next) _
          rw [newρ_same]
          exact ⟨vs, hDD, ra.mono lv⟩
        · show CellOk _ _ _ (newρ S2.ρ S2.μ.next D j) d
          rw [newρ_ne n1]
          exact (R2.ok j d e1).mono lv rfl
      · have h1 : (S2.μ.new (.lst acc)).cell k = some c := h1
        show newρ S2.ρ S2.μ.next D k ≠ a
        rcases cs h1 with ⟨e1, _⟩ | ⟨n1, e1⟩
        · rw [e1, newρ_same]
          intro z
          rw [← z, pvD] at e
          cases e
        · rw [newρ_ne n1]
          exact (R2.prv a o (sub a o e)).2 k c e1
    refine hq { S2 with pv := S1.pv, ρ := newρ S2.ρ S2.μ.next D, μ := S2.μ.new (.lst acc) } (.obj S2.μ.next) (.ref D) (l1.trans ⟨l2.trans lv, rfl⟩) R3 ⟨Nat.lt_succ_self _, ?_⟩ w2
    show V.ref D = V.ref (newρ S2.ρ S2.μ.next D S2.μ.next)
    rw [newρ_same]
end
section
variable {B : Bs} {T : List Addr} {cls : Nat → Addr} {k : Nat} {cd : Prop}
theorem n_cpM {c : IR} (ok : okE B T cls k cd c) : NodOk B T cls k cd (fCpM c) (eCpM c) := by
  intro X top Wx e es as S hf hp
  unfold fCpM at hf
  split at hf
  · rename_i hc
    cases hf
    obtain rfl : as = .nil := by
      cases as with
      | nil => rfl
      | cons a r => exact False.elim hp
      | _ => exact False.elim hp
    rw [Bool.and_eq_true] at hc
    obtain ⟨h0, h⟩ := hc
    cases c with
    | cpr own g it t e' =>
      have ok : okE B T cls k cd it ∧ okE B T cls k False g ∧ okE B T cls k False t ∧ okE B T cls k False e' := ok
      cases e with
      | ListComp elt gs scope pos =>
        rcases gs with _ | ⟨⟨tg, iter, ifs, as⟩, _ | ⟨g2, gs⟩⟩ <;> first | (cases (show false = true from h); done) | (simp [chkE] at h; done) | skip
        simp only [chkE, Bool.and_eq_true, Bool.not_eq_true', List.all_eq_true, decide_eq_true_eq] at h
        obtain ⟨⟨⟨⟨⟨⟨⟨rfl, h1⟩, h2⟩, h3⟩, h4⟩, h5⟩, h6⟩, h7⟩ := h
        exact PE.weak (pe_lc S.g.calm S.g.nd (sndI it S ok.1 h4) (blkOk_by h1) (fun s H C cl fp => pgN S.g.nd rfl h5 fun h5 => sndG g (S.blk s H scope _ fp) ok.2.1 h5) (fun s H C cl fp => tests_of (fun e he => sndT t (S.blk s H scope _ fp) ok.2.2.1 he) h6) (fun s H C cl fp => sndE e' (S.blk s H scope _ fp) ok.2.2.2 h7) (set_of h3)) fun σ H Q h => lc_readM h2 h
      | _ => cases (show false = true from h)
    | _ => cases h0
  · cases hf
end
end M
end
section
namespace M
open PySem PySem.Spec PyProof.Rows L2
def rsvN : Nat → Sto → D → D
  | 0, _, d => d
  | n + 1, μ, .tup ds => .tup (ds.map (rsvN n μ))
  | n + 1, μ, .lst ds => .lst (ds.map (rsvN n μ))
  | n + 1, μ, .scr ds => .lst (ds.map (rsvN n μ))
  | n + 1, μ, .obj k => match μ.cell k with
    | some (.lst ds) => .lst (ds.map (rsvN n μ))
    | _ => .obj k
  | _ + 1, _, d => d
def rsv (μ : Sto) (d : D) : D := rsvN 8 μ d
section
variable {W : Wd} {S : Ss}
theorem dpAll_of {f : D → D} (h : ∀ d v, Rep W.K S.vw d v → pureD (f d) = true → Dp W.K S.H v (pyOf (f d))) : ∀ (ds : List D) (vs : List V), Reps W.K S.vw ds vs → pureDs (ds.map f) = true → DpAll W.K S.H vs (pyOfs (ds.map f))
  | [], vs, r, _ => by cases (show vs = [] from r); exact .nil
  | d :: ds, vs, r, p => by
    obtain ⟨x, t, rfl, r1, r2⟩ := r
    have p2 : (pureD (f d) && pureDs (ds.map f)) = true := p
    rw [Bool.and_eq_true] at p2
    exact .cons (h d x r1 p2.1) (dpAll_of h ds t r2 p2.2)
theorem rsvN_dp (R : Rl W S) : ∀ (n : Nat) (d : D) (v : V), Rep W.K S.vw d v → pureD (rsvN n S.μ d) = true → Dp W.K S.H v (pyOf (rsvN n S.μ d)) := by
  intro n
  induction n with
  | zero => exact fun d v r p => dp_of hid_ext r p
  | succ n ih =>
    intro d v r p
    cases d with
    | tup ds =>
      obtain ⟨a, xs, rfl, s, r2⟩ := r
      exact .tup (hid_ext.sqt s) (dpAll_of ih ds xs r2 p)
    | lst ds =>
      obtain ⟨a, xs, rfl, s, r2⟩ := r
      exact .lst (SqL.of (hid_ex s)) (dpAll_of ih ds xs r2 p)
    | scr ds =>
      obtain ⟨a, xs, rfl, s, r2⟩ := r
      exact .lst (hid_ext.sql s) (dpAll_of ih ds xs r2 p)
    | obj k =>
      obtain ⟨_, rfl⟩ := r
      cases hc : S.μ.cell k with
      | none =>
        exfalso
        unfold rsvN at p
        rw [hc] at p
        cases p
      | some c =>
        cases c with
        | lst ds =>
          obtain ⟨xs, e1, r2⟩ := R.ok _ _ hc
          unfold rsvN at p ⊢
          rw [hc] at p ⊢
          exact .lst (SqL.of e1) (dpAll_of ih ds xs r2 p)
        | _ =>
          exfalso
          unfold rsvN at p
          rw [hc] at p
          cases p
    | _ => exact dp_of hid_ext r p
theorem rsv_dp {d : D} {v : V} (R : Rl W S) (r : Rep W.K S.vw d v) (h : eqOk (rsv S.μ d) = true) : Dp W.K S.H v (pyOf (rsv S.μ d)) ∧ (pyOf (rsv S.μ d)).plain = true ∧ (pyOf (rsv S.μ d)).depth ≤ 12 := by
  have h2 := eqN_ok 12 _ h
  exact ⟨rsvN_dp R 8 d v r h2.1, h2.2⟩
end
section
variable {B : Bs} {T : List Addr} {cls : Nat → Addr} {k : Nat} {cd : Prop} {X : Cx}
def reprOf (d : D) : Str := (pyOf d).shown
def fRpr : XF := fun _ sc _ e => match e with
  | .Call (.Name "repr" _) [a] [] _ => if glB sc "repr" = true ∧ isStar a = false then some [a] else none
  | _ => none
def isSq (d : D) : Bool := match d with
  | .tup _ | .lst _ => true
  | _ => false
def eRpr : EvE := fun _ ds μ Q _ => match ds with
  | [d] => isSq (rsv μ d) = true ∧ eqOk (rsv μ d) = true ∧ (pyOf (rsv μ d)).showable = true ∧ (reprOf (rsv μ d)).length ≤ sizeLine ∧ Q (.str (reprOf (rsv μ d))) μ
  | _ => False
mutual
theorem plain_nd : ∀ {d : PyData}, d.plain = true → d.hasDict = false
  | .none, _ => rfl
  | .bool _, _ => rfl
  | .int _, _ => rfl
  | .str _, _ => rfl
  | .list xs, h => plains_nd (xs := xs) h
  | .tuple xs, h => plains_nd (xs := xs) h
  | .dict _, h => by cases h
theorem plains_nd : ∀ {xs : List PyData}, PyData.plainAll xs = true → PyData.hasDictAll xs = false
  | [], _ => rfl
  | x :: xs, h => by
    have h : (PyData.plain x && PyData.plainAll xs) = true := h
    rw [Bool.and_eq_true] at h
    show (PyData.hasDict x || PyData.hasDictAll xs) = false
    rw [plain_nd h.1, plains_nd h.2]
    rfl
end
theorem dp_ref {K : PySem.W.Frag} {H : Hp} {v : V} {d : D} (h : Dp K H v (pyOf d)) (hs : isSq d = true) : ∃ a, v = .ref a := by
  cases d with
  | tup ds => cases h <;> exact ⟨_, rfl⟩
  | lst ds => cases h <;> exact ⟨_, rfl⟩
  | _ => cases hs
theorem call_repr {k : Nat} (hg : X.A.guards = some []) (hr : Room k X.A) : CallR X (.builtin "repr") fun xs H Q => ∃ S d v, S.H = H ∧ xs = [v] ∧ Rl (wd X T cls) S ∧ Rep X.K S.vw d v ∧ isSq (rsv S.μ d) = true ∧ eqOk (rsv S.μ d) = true ∧ (pyOf (rsv S.μ d)).showable = true ∧ (reprOf (rsv S.μ d)).length ≤ sizeLine ∧ Q (.str (reprOf (rsv S.μ d))) S.H := by
  intro pins s σ H xs us Q I r h
  obtain ⟨S, d, v, rfl, rfl, R, rd, hsq, heq, hsh, hsz, q⟩ := h
  obtain ⟨p1, s1, t1⟩ := rsv_dp R rd heq
  obtain ⟨u, rfl, ru⟩ := vals1 r
  obtain ⟨a, rfl⟩ := dp_ref p1 hsq
  obtain rfl : u = Value.ref a := ru
  obtain ⟨as, r1⟩ := Dp.reads I _ _ _ p1 rfl
  exact repr_of_reads' r1 hsh (PyData.noDict_hsm (plain_nd s1)) hg (by have := hr.un; omega) (fun _ _ e => e) (fun h' u tk hk => ⟨.str _, S.H, I.kept hk, ⟨u, rfl⟩, q⟩) hsz
end
end M
end
section
namespace M
open PySem PySem.Spec PyProof.Rows L2
open SX (S S_len S_cat)
abbrev x_InvalidCommand : Nat := 2
abbrev x_BatchFull : Nat := 3
abbrev x_TooManyBatches : Nat := 4
abbrev x_NoSuchBatch : Nat := 6
def optS : Option Str → D
  | none => .non
  | some s => .str s
def outcD (o : Str × List Rp) : D := .tup [.str o.1, .lst (o.2.map repD)]
theorem met_gen {μ : Sto} {j c : Nat} {fs : List (Str × D)} {m : Str} {sp : Spec} (h : μ.cell j = some (.ins c fs)) (hn : fs.lookup m = none) : metOf m [(c, sp)] (.obj j) μ = some sp := by
  simp [metOf, insD, h, hn, List.lookup]
theorem set_gen {μ : Sto} {j c : Nat} {fs : List (Str × D)} {f : Str} {v : D} {δ : Env} {O : Outs} (h : μ.cell j = some (.ins c fs)) (hl : fs.length < 1000) : eSet [c] f δ [v, .obj j] μ O = O.nx δ (μ.put j (.ins c (setF f v fs))) := by
  simp (decide := true) [eSet, setD, insD, h, hl]
theorem intsL_B (n : Nat) (l : List Int) : objB n (intsL l) = true := objBs_map fun _ _ => rfl
theorem optS_B (n : Nat) (o : Option Str) : objB n (optS o) = true := by cases o <;> rfl
theorem cmdD_B (n : Nat) (c : Cmd) : objB n (cmdD c) = true := msD_B n (.cmd c)
theorem cmdsD_B (n : Nat) (cs : List Cmd) : objB n (cmdsD cs) = true := objBs_map fun c _ => cmdD_B n c
theorem repL_B (n : Nat) (rs : List Rp) : objB n (.lst (rs.map repD)) = true := objBs_map fun r _ => repD_B n r
def eFs (cl : Bool) (w : Nat) : List (Str × D) := [("_other_side", .str (sideS cl)), ("_phase", .str "closed"), ("_reason", .non), ("_to_send", .lst []), ("_wire", .obj w)]
theorem sz16 : 16000000 ≤ sizeLine := by rw [sizeLine_eq]; omega
theorem SeqC.up {F F' : Cells} {d : D} {ds : List D} (h : SeqC F d ds) (hs : ∀ p ∈ F, p ∈ F') : SeqC F' d ds := by
  rcases h with h | ⟨k, e, m⟩
  · exact .inl h
  · exact .inr ⟨k, e, hs _ m⟩
section
variable {μ μ' : Sto} {δ : Env} {Q : Post} {E : XPost} {O : Outs}
theorem ixc_at {k : Nat} {ds : List D} {i : Int} {y : D} (hc : μ.cell k = some (.lst ds)) (h : atI ds i = some y) : ixD (.obj k) (.int i) μ Q = Q y μ := by simp [ixD, sq_obj hc, h]
theorem stepI {c : Nat} {ν : Sto} {k : Nat} {fs : List (Str × D)} {G : Cells} {f : Str} {v : D} (h : HW ν ((k, .ins c fs) :: G)) (hl : fs.length < 1000) (hb : cellB ν.next (.ins c (setF f v fs)) = true) (go : ∀ ν', ν'.next = ν.next → HW ν' ((k, .ins c (setF f v fs)) :: G) → O.nx δ ν') : eSet [c] f δ [v, .obj k] ν O := by
  rw [set_gen h.hd hl]
  exact go _ rfl (h.put0 hb)
theorem app_c {k : Nat} {ds : List D} {d : D} (h : μ.cell k = some (.lst ds)) (hl : ds.length ≤ 1000) : spApp [.obj k, d] μ Q E = Q .non (μ.put k (.lst (ds ++ [d]))) := by
  have := sizeLine_eq
  unfold spApp
  simp only [h]
  exact propext ⟨fun z => z.2, fun z => ⟨by omega, z⟩⟩
theorem tru_bl {b : Bool} {Q : Bool → Prop} : truD (.bl b) μ Q = Q b := rfl
end
end M
end
section
namespace M
open PySem PySem.Spec PyProof.Rows L2
open SX (S S_len S_cat)
structure RC where
  (w a b o r : Nat)
  L : CL
def insC (R : RC) : Cell := .ins 15 [("_other_side", .str "server"), ("_phase", .str R.L.ph), ("_reason", optS R.L.why), ("_to_send", intsL R.L.snd), ("_wire", .obj R.w), ("_session", .int R.L.ses), ("_commands", .obj R.a), ("_batches", .obj R.b), ("_outcomes", .obj R.o), ("_replies", .obj R.r)]
def cliC (j : Nat) (R : RC) : Cells := [(j, insC R), (R.w, wireC R.L.w), (R.a, .lst (R.L.cmds.map cmdD)), (R.b, .lst (R.L.bats.map cmdsD)), (R.o, .lst (R.L.outs.map outcD)), (R.r, .lst (R.L.reps.map repD))]
def postL (j : Nat) (F : Cells) (μ : Sto) (L' : CL) (v : D) (Q : Post) : Prop := ∀ μ' R', HW μ' (cliC j R' ++ F) → R'.L = L' → μ.next ≤ μ'.next → Q v μ'
def errL (j : Nat) (R : RC) (F : Cells) (μ : Sto) (x : Nat) (E : XPost) : Prop := ∀ μ', HW μ' (cliC j R ++ F) → μ.next ≤ μ'.next → E x μ'
def sp_EndC___init__ : Spec := fun ds μ Q _ => match ds with
  | [.obj k, .str z] => ∃ cl F, z = sideS cl ∧ HW μ ((k, .ins 15 []) :: F) ∧ ∀ μ' w, HW μ' ((k, .ins 15 [("_other_side", .str z), ("_phase", .str "closed"), ("_reason", .non), ("_to_send", .lst []), ("_wire", .obj w)]) :: (w, wireC (w0 cl)) :: F) → μ.next ≤ μ'.next → Q .non μ'
  | _ => False
def sp_Client___init__ : Spec := fun ds μ Q _ => match ds with
  | [.obj k] => ∃ F, HW μ ((k, .ins 15 []) :: F) ∧ postL k F μ initL .non Q
  | _ => False
def sp_Client_phase : Spec := fun ds μ Q _ => match ds with
  | [.obj j] => ∃ R F, HW μ (cliC j R ++ F) ∧ Q (.str R.L.ph) μ
  | _ => False
def sp_Client_waiting : Spec := fun ds μ Q _ => match ds with
  | [.obj j] => ∃ R F, HW μ (cliC j R ++ F) ∧ Q (.int R.L.snd.length) μ
  | _ => False
def sp_Client_session : Spec := fun ds μ Q _ => match ds with
  | [.obj j] => ∃ R F, HW μ (cliC j R ++ F) ∧ Q (.int R.L.ses) μ
  | _ => False
def sp_Client_handed : Spec := fun ds μ Q _ => match ds with
  | [.obj j] => ∃ R F, HW μ (cliC j R ++ F) ∧ Q (.int R.L.bats.length) μ
  | _ => False
def sp_Client_received : Spec := fun ds μ Q _ => match ds with
  | [.obj j] => ∃ R F, HW μ (cliC j R ++ F) ∧ Q (.int R.L.outs.length) μ
  | _ => False
def sp_Client__added : Spec := fun ds μ Q E => match ds with
  | [.obj j, d, .bl ok] => ∃ R F, HW μ (cliC j R ++ F) ∧ okL R.L ∧ if ok = false then errL j R F μ 2 E else if R.L.cmds.length = 20 then errL j R F μ 3 E else ∃ c, d = cmdD c ∧ postL j F μ (addL c R.L) (.int R.L.cmds.length) Q
  | _ => False
def addS (j : Nat) (μ : Sto) (c : Option Cmd) (Q : Post) (E : XPost) : Prop := ∃ R F, HW μ (cliC j R ++ F) ∧ okL R.L ∧ match c with
  | none => errL j R F μ 2 E
  | some c => if R.L.cmds.length = 20 then errL j R F μ 3 E else postL j F μ (addL c R.L) (.int R.L.cmds.length) Q
def anyD (d : D) (μ : Sto) : Prop := (tyName d μ).isSome = true ∧ ∀ x, d = .str x → x.length ≤ 100000
def strIf (f : List Nat → Bool) (d : D) : Option Str := match d with
  | .str x => if f x.cps.toList = true then some x else none
  | _ => none
def sp_Client_forget : Spec := fun ds μ Q E => match ds with
  | [.obj j, d] => anyD d μ ∧ addS j μ ((strIf isName d).map .forget) Q E
  | _ => False
def sp_Client_close : Spec := fun ds μ Q E => match ds with
  | [.obj j, d] => anyD d μ ∧ addS j μ ((strIf isName d).map .close) Q E
  | _ => False
def sp_Client_prepare : Spec := fun ds μ Q E => match ds with
  | [.obj j, d, e] => anyD d μ ∧ anyD e μ ∧ addS j μ ((strIf isName d).bind fun x => (strIf isStrg e).map fun y => .prepare x y) Q E
  | _ => False
def intOf (d : D) : Int := match d with
  | .int i => i
  | _ => 0
def sp_Client_run : Spec := fun ds μ Q E => match ds with
  | [.obj j, d, e] => anyD d μ ∧ anyD e μ ∧ addS j μ ((strIf isName d).bind fun x => if intIn e 0 1000 = true then some (.run x (intOf e)) else none) Q E
  | _ => False
def sp_Client_sync : Spec := fun ds μ Q E => match ds with
  | [.obj j] => ∃ R F, HW μ (cliC j R ++ F) ∧ okL R.L ∧ if R.L.bats.length = 50 then errL j R F μ 4 E else postL j F μ (syncL R.L) (.int (R.L.bats.length + 1)) Q
  | _ => False
def sp_Client_outcome : Spec := fun ds μ Q E => match ds with
  | [.obj j, d] => ∃ R F, HW μ (cliC j R ++ F) ∧ okL R.L ∧ (tyName d μ).isSome = true ∧
      if intIn d 1 R.L.bats.length = false then errL j R F μ 6 E else match R.L.outs[(intOf d).toNat - 1]? with
        | none => Q .non μ
        | some o => ∀ μ' n, HW μ' ((n, .lst (o.2.map repD)) :: (cliC j R ++ F)) → μ.next ≤ μ'.next → μ.next ≤ n → Q (.tup [.str o.1, .obj n]) μ'
  | _ => False
def sp_Client__send : Spec := fun ds μ Q _ => match ds with
  | [.obj j, d] => ∃ R F m, HW μ (cliC j R ++ F) ∧ d = msD m ∧ cliOk m ∧ R.L.snd.length + (clientB m).length ≤ 16000000 ∧ postL j F μ (sendL m R.L) .non Q
  | _ => False
def sp_Client__send_batch : Spec := fun ds μ Q _ => match ds with
  | [.obj j, .int n] => ∃ R F, HW μ (cliC j R ++ F) ∧ 1 ≤ n ∧ n ≤ R.L.bats.length ∧ (∀ cs ∈ R.L.bats, GCs cs) ∧ R.L.snd.length ≤ 15000000 ∧ postL j F μ (sendBat n.toNat R.L) .non Q
  | _ => False
def sp_told : Spec := fun ds μ Q _ => match ds with
  | [d] => ∃ r, d = repD r ∧ Q (repD r) μ
  | _ => False
def N_EndC___init__ : List Str := ["self", "other_side"]
def c_EndC___init__ : IR := .seq (.sno (fSet "_other_side") (eSet [15] "_other_side") (.cons (.var 1) (.cons (.var 0) .nil))) (.seq (.sno (fSet "_phase") (eSet [15] "_phase") (.cons (.con (.str "closed")) (.cons (.var 0) .nil))) (.seq (.sno (fSet "_reason") (eSet [15] "_reason") (.cons (.con (.non)) (.cons (.var 0) .nil))) (.seq (.sno (fSet "_to_send") (eSet [15] "_to_send") (.cons (.lstC (.nil)) (.cons (.var 0) .nil))) (.seq (.sno (fSet "_wire") (eSet [15] "_wire") (.cons (.nod (fNew "Wire") (eNew 13 sp_Wire___init__) (.cons (.var 1) .nil)) (.cons (.var 0) .nil))) (.nil)))))
def N_Client___init__ : List Str := ["self"]
def c_Client___init__ : IR := .seq (.sno (fSet "_session") (eSet [15] "_session") (.cons (.con (.int 0)) (.cons (.var 0) .nil))) (.seq (.sno (fSet "_commands") (eSet [15] "_commands") (.cons (.lstM (.nil)) (.cons (.var 0) .nil))) (.seq (.sno (fSet "_batches") (eSet [15] "_batches") (.cons (.lstM (.nil)) (.cons (.var 0) .nil))) (.seq (.sno (fSet "_outcomes") (eSet [15] "_outcomes") (.cons (.lstM (.nil)) (.cons (.var 0) .nil))) (.seq (.sno (fSet "_replies") (eSet [15] "_replies") (.cons (.lstM (.nil)) (.cons (.var 0) .nil))) (.nil)))))
def N_Client_phase : List Str := ["self"]
def c_Client_phase : IR := .seq (.ret (.nod (fFld "_phase") (eFld [15] "_phase") (.cons (.var 0) .nil))) (.nil)
def N_Client_waiting : List Str := ["self"]
def c_Client_waiting : IR := .seq (.ret (.cal "len" spLen (.cons (.nod (fFld "_to_send") (eFld [15] "_to_send") (.cons (.var 0) .nil)) .nil))) (.nil)
def N_Client_session : List Str := ["self"]
def c_Client_session : IR := .seq (.ret (.nod (fFld "_session") (eFld [15] "_session") (.cons (.var 0) .nil))) (.nil)
def N_Client_handed : List Str := ["self"]
def c_Client_handed : IR := .seq (.ret (.cal "len" spLen (.cons (.nod (fFld "_batches") (eFld [15] "_batches") (.cons (.var 0) .nil)) .nil))) (.nil)
def N_Client_received : List Str := ["self"]
def c_Client_received : IR := .seq (.ret (.cal "len" spLen (.cons (.nod (fFld "_outcomes") (eFld [15] "_outcomes") (.cons (.var 0) .nil)) .nil))) (.nil)
def N_Client__added : List Str := ["self", "command", "is_right"]
def c_Client__added : IR := .seq (.ifS (.tNot (.tV (.var 2))) (.seq (.sno (fRse "InvalidCommand") (eRse x_InvalidCommand) .nil) (.nil)) (.nil)) (.seq (.ifS (.cmp .Eq (.cal "len" spLen (.cons (.nod (fFld "_commands") (eFld [15] "_commands") (.cons (.var 0) .nil)) .nil)) (.glb "MOST_COMMANDS" (.int 20))) (.seq (.sno (fRse "BatchFull") (eRse x_BatchFull) .nil) (.nil)) (.nil)) (.seq (.exp (.bme "list" "list.append" "append" spApp (.nod (fFld "_commands") (eFld [15] "_commands") (.cons (.var 0) .nil)) (.cons (.var 1) .nil))) (.seq (.ret (.bin .Sub (.cal "len" spLen (.cons (.nod (fFld "_commands") (eFld [15] "_commands") (.cons (.var 0) .nil)) .nil)) (.con (.int 1)))) (.nil))))
def N_Client_prepare : List Str := ["self", "name", "string"]
def c_Client_prepare : IR := .seq (.ret (.mcl "_added" [(15, sp_Client__added)] (.var 0) (.cons (.tupC (.cons (.con (.str "prepare")) (.cons (.var 1) (.cons (.var 2) .nil)))) (.cons (.andV (.cal "is_name" sp_is_name (.cons (.var 1) .nil)) (.one (.cal "is_string" sp_is_string (.cons (.var 2) .nil)))) .nil)))) (.nil)
def N_Client_run : List Str := ["self", "portal", "most"]
def c_Client_run : IR := .seq (.ret (.mcl "_added" [(15, sp_Client__added)] (.var 0) (.cons (.tupC (.cons (.con (.str "run")) (.cons (.var 1) (.cons (.var 2) .nil)))) (.cons (.andV (.cal "is_name" sp_is_name (.cons (.var 1) .nil)) (.one (.cal "is_integer" sp_is_integer (.cons (.var 2) (.cons (.con (.int 0)) (.cons (.glb "MOST_AT_ONCE" (.int 1000)) .nil)))))) .nil)))) (.nil)
def N_Client_forget : List Str := ["self", "name"]
def c_Client_forget : IR := .seq (.ret (.mcl "_added" [(15, sp_Client__added)] (.var 0) (.cons (.tupC (.cons (.con (.str "forget")) (.cons (.var 1) .nil))) (.cons (.cal "is_name" sp_is_name (.cons (.var 1) .nil)) .nil)))) (.nil)
def N_Client_close : List Str := ["self", "portal"]
def c_Client_close : IR := .seq (.ret (.mcl "_added" [(15, sp_Client__added)] (.var 0) (.cons (.tupC (.cons (.con (.str "close")) (.cons (.var 1) .nil))) (.cons (.cal "is_name" sp_is_name (.cons (.var 1) .nil)) .nil)))) (.nil)
def N_Client_sync : List Str := ["self"]
def r4_Client_sync : IR := .seq (.ret (.cal "len" spLen (.cons (.nod (fFld "_batches") (eFld [15] "_batches") (.cons (.var 0) .nil)) .nil))) (.nil)
def r3_Client_sync : IR := .seq (.ifS (.cmp .Eq (.nod (fFld "_phase") (eFld [15] "_phase") (.cons (.var 0) .nil)) (.con (.str "open"))) (.seq (.exp (.mcl "_send_batch" [(15, sp_Client__send_batch)] (.var 0) (.cons (.cal "len" spLen (.cons (.nod (fFld "_batches") (eFld [15] "_batches") (.cons (.var 0) .nil)) .nil)) .nil))) (.nil)) (.nil)) r4_Client_sync
def r2_Client_sync : IR := .seq (.sno (fSet "_commands") (eSet [15] "_commands") (.cons (.lstM (.nil)) (.cons (.var 0) .nil))) r3_Client_sync
def r1_Client_sync : IR := .seq (.exp (.bme "list" "list.append" "append" spApp (.nod (fFld "_batches") (eFld [15] "_batches") (.cons (.var 0) .nil)) (.cons (.frz (.nod (fFld "_commands") (eFld [15] "_commands") (.cons (.var 0) .nil))) .nil))) r2_Client_sync
def c_Client_sync : IR := .seq (.ifS (.cmp .Eq (.cal "len" spLen (.cons (.nod (fFld "_batches") (eFld [15] "_batches") (.cons (.var 0) .nil)) .nil)) (.glb "MOST_BATCHES" (.int 50))) (.seq (.sno (fRse "TooManyBatches") (eRse x_TooManyBatches) .nil) (.nil)) (.nil)) r1_Client_sync
def N_Client_outcome : List Str := ["self", "batch", "state", "replies", "reply"]
def m1_Client_outcome : IR := .cpr [("reply", 4)] (.gN 4) (.itV (.var 3)) (.nop) (.cal "told" sp_told (.cons (.var 4) .nil))
def c_Client_outcome : IR := .seq (.ifS (.tNot (.tV (.cal "is_integer" sp_is_integer (.cons (.var 1) (.cons (.con (.int 1)) (.cons (.cal "len" spLen (.cons (.nod (fFld "_batches") (eFld [15] "_batches") (.cons (.var 0) .nil)) .nil)) .nil)))))) (.seq (.sno (fRse "NoSuchBatch") (eRse x_NoSuchBatch) .nil) (.nil)) (.nil)) (.seq (.ifS (.cmp .Gt (.var 1) (.cal "len" spLen (.cons (.nod (fFld "_outcomes") (eFld [15] "_outcomes") (.cons (.var 0) .nil)) .nil))) (.seq (.ret (.con (.non))) (.nil)) (.nil)) (.seq (.asg (.gT 2 (.cons (.gN 2) (.cons (.gN 3) (.nil)))) (.ix (.nod (fFld "_outcomes") (eFld [15] "_outcomes") (.cons (.var 0) .nil)) (.bin .Sub (.var 1) (.con (.int 1))))) (.seq (.ret (.tupC (.cons (.var 2) (.cons (.nod (fCpM m1_Client_outcome) (eCpM m1_Client_outcome) .nil) (.nil))))) (.nil))))
def N_Client__send : List Str := ["self", "message"]
def c_Client__send : IR := .seq (.sno (fSet "_to_send") (eSet [15] "_to_send") (.cons (.bin .Add (.nod (fFld "_to_send") (eFld [15] "_to_send") (.cons (.var 0) .nil)) (.cal "client_bytes" sp_client_bytes (.cons (.var 1) .nil))) (.cons (.var 0) .nil))) (.nil)
def N_Client__send_batch : List Str := ["self", "number", "command"]
def b1_Client__send_batch : IR := .seq (.exp (.mcl "_send" [(15, sp_Client__send)] (.var 0) (.cons (.var 2) .nil))) (.nil)
def r1_Client__send_batch : IR := .seq (.exp (.mcl "_send" [(15, sp_Client__send)] (.var 0) (.cons (.tupC (.cons (.con (.str "sync")) (.cons (.var 1) (.cons (.cal "len" spLen (.cons (.nod (fFld "_outcomes") (eFld [15] "_outcomes") (.cons (.var 0) .nil)) .nil)) .nil)))) .nil))) (.nil)
def c_Client__send_batch : IR := .seq (.fr (.gN 2) (.itV (.ix (.nod (fFld "_batches") (eFld [15] "_batches") (.cons (.var 0) .nil)) (.bin .Sub (.var 1) (.con (.int 1))))) b1_Client__send_batch) r1_Client__send_batch
def N_told : List Str := ["reply"]
def c_told : IR := .seq (.ifS (.cmp .Eq (.ix (.var 0) (.con (.int 0))) (.con (.str "rows"))) (.seq (.ret (.tupC (.cons (.con (.str "rows")) (.cons (.cal "list" spLst (.cons (.ix (.var 0) (.con (.int 1))) .nil)) (.cons (.ix (.var 0) (.con (.int 2))) (.nil)))))) (.nil)) (.nil)) (.seq (.ret (.var 0)) (.nil))
end M
end
section
namespace M
open PySem PySem.Spec PyProof.Rows L2
open SX (S S_len S_cat)
def RC.up (R : RC) (L : CL) : RC := ⟨R.w, R.a, R.b, R.o, R.r, L⟩
def RC.ua (R : RC) (n : Nat) : RC := ⟨R.w, n, R.b, R.o, R.r, R.L⟩
def CL.sS (l : List Int) (L : CL) : CL := ⟨L.ph, L.why, l, L.w, L.ses, L.cmds, L.bats, L.outs, L.reps⟩
section
variable {μ μ' : Sto} {j : Nat} {R R' : RC} {F : Cells} {δ : Env} {Q : Post} {E : XPost} {O : Outs}
theorem insC_B {n : Nat} (h1 : R.w < n) (h2 : R.a < n) (h3 : R.b < n) (h4 : R.o < n) (h5 : R.r < n) : cellB n (insC R) = true := by
  show objBs n [.str "server", .str R.L.ph, optS R.L.why, intsL R.L.snd, .obj R.w, .int R.L.ses, .obj R.a, .obj R.b, .obj R.o, .obj R.r] = true
  simp only [objBs, objB, intsL_B, optS_B, decide_eq_true h1, decide_eq_true h2, decide_eq_true h3, decide_eq_true h4, decide_eq_true h5]
  rfl
structure AtC (μ : Sto) (j : Nat) (R : RC) : Prop where
  j : μ.cell j = some (insC R)
  w : μ.cell R.w = some (wireC R.L.w)
  a : μ.cell R.a = some (.lst (R.L.cmds.map cmdD))
  b : μ.cell R.b = some (.lst (R.L.bats.map cmdsD))
  o : μ.cell R.o = some (.lst (R.L.outs.map outcD))
  r : μ.cell R.r = some (.lst (R.L.reps.map repD))
theorem HW.cli (h : HW μ (cliC j R ++ F)) : AtC μ j R :=
  ⟨h.get (by simp [cliC]), h.get (by simp [cliC]), h.get (by simp [cliC]), h.get (by simp [cliC]), h.get (by simp [cliC]), h.get (by simp [cliC])⟩
structure LtC (n : Nat) (j : Nat) (R : RC) : Prop where
  j : j < n
  w : R.w < n
  a : R.a < n
  b : R.b < n
  o : R.o < n
  r : R.r < n
theorem HW.ltc (h : HW μ (cliC j R ++ F)) : LtC μ.next j R :=
  ⟨h.lt (c := insC R) (by simp [cliC]), h.lt (c := wireC R.L.w) (by simp [cliC]), h.lt (c := .lst (R.L.cmds.map cmdD)) (by simp [cliC]), h.lt (c := .lst (R.L.bats.map cmdsD)) (by simp [cliC]), h.lt (c := .lst (R.L.outs.map outcD)) (by simp [cliC]), h.lt (c := .lst (R.L.reps.map repD)) (by simp [cliC])⟩
theorem HW.insB (h : HW μ (cliC j R ++ F)) (L : CL) : cellB μ.next (insC (R.up L)) = true := insC_B h.ltc.w h.ltc.a h.ltc.b h.ltc.o h.ltc.r
theorem HW.upj (h : HW μ (cliC j R ++ F)) (L : CL) (e1 : L.w = R.L.w) (e2 : L.cmds = R.L.cmds) (e3 : L.bats = R.L.bats) (e4 : L.outs = R.L.outs) (e5 : L.reps = R.L.reps) : HW (μ.put j (insC (R.up L))) (cliC j (R.up L) ++ F) := by
  have := HW.put0 (c' := insC (R.up L)) (L := (cliC j R).tail ++ F) h (h.insB L)
  have e : cliC j (R.up L) ++ F = (j, insC (R.up L)) :: ((cliC j R).tail ++ F) := by
    show (j, insC (R.up L)) :: (R.w, wireC L.w) :: (R.a, Cell.lst (L.cmds.map cmdD)) :: (R.b, Cell.lst (L.bats.map cmdsD)) :: (R.o, Cell.lst (L.outs.map outcD)) :: (R.r, Cell.lst (L.reps.map repD)) :: F = _
    rw [e1, e2, e3, e4, e5]
    rfl
  rw [e]
  exact this
theorem fc_phase (h : μ.cell j = some (insC R)) : eFld [15] "_phase" δ [.obj j] μ Q E = Q (.str R.L.ph) μ := fl_gen h rfl
theorem fc_send (h : μ.cell j = some (insC R)) : eFld [15] "_to_send" δ [.obj j] μ Q E = Q (intsL R.L.snd) μ := fl_gen h rfl
theorem fc_session (h : μ.cell j = some (insC R)) : eFld [15] "_session" δ [.obj j] μ Q E = Q (.int R.L.ses) μ := fl_gen h rfl
theorem fc_commands (h : μ.cell j = some (insC R)) : eFld [15] "_commands" δ [.obj j] μ Q E = Q (.obj R.a) μ := fl_gen h rfl
theorem fc_batches (h : μ.cell j = some (insC R)) : eFld [15] "_batches" δ [.obj j] μ Q E = Q (.obj R.b) μ := fl_gen h rfl
theorem fc_outcomes (h : μ.cell j = some (insC R)) : eFld [15] "_outcomes" δ [.obj j] μ Q E = Q (.obj R.o) μ := fl_gen h rfl
theorem sc_send {l : List Int} (h : μ.cell j = some (insC R)) : eSet [15] "_to_send" δ [intsL l, .obj j] μ O = O.nx δ (μ.put j (insC (R.up (R.L.sS l)))) := set_gen h (by show (10 : Nat) < 1000; decide)
theorem sc_commands {n : Nat} (h : μ.cell j = some (insC R)) : eSet [15] "_commands" δ [.obj n, .obj j] μ O = O.nx δ (μ.put j (insC (R.ua n))) := set_gen h (by show (10 : Nat) < 1000; decide)
theorem st_send {l : List Int} (h : HW μ (cliC j R ++ F)) (k : ∀ μ', μ'.next = μ.next → HW μ' (cliC j (R.up (R.L.sS l)) ++ F) → O.nx δ μ') : eSet [15] "_to_send" δ [intsL l, .obj j] μ O := by
  rw [sc_send h.cli.j]
  exact k _ rfl (h.upj (R.L.sS l) rfl rfl rfl rfl rfl)
theorem mc {m : Str} {sp : Spec} (h : HW μ (cliC j R ++ F)) (hn : (match insC R with | .ins _ fs => fs.lookup m | _ => some .non) = none) : metOf m [(15, sp)] (.obj j) μ = some sp := met_gen h.cli.j hn
theorem mc_send (h : HW μ (cliC j R ++ F)) : metOf "_send" [(15, sp_Client__send)] (.obj j) μ = some sp_Client__send := mc h rfl
theorem mc_send_batch (h : HW μ (cliC j R ++ F)) : metOf "_send_batch" [(15, sp_Client__send_batch)] (.obj j) μ = some sp_Client__send_batch := mc h rfl
theorem mc_added (h : HW μ (cliC j R ++ F)) : metOf "_added" [(15, sp_Client__added)] (.obj j) μ = some sp_Client__added := mc h rfl
theorem fin_L {L' : CL} {v : D} (h : postL j F μ L' v Q) (hh : HW μ' (cliC j R' ++ F)) (e : R'.L = L') (hn : μ.next ≤ μ'.next) (hv : objB μ'.next v = true) : finP μ.next Q v μ' := fin_all hh.wf hn hv (h μ' R' hh e hn)
theorem err_L {x : Nat} (h : errL j R F μ x E) (hh : HW μ' (cliC j R ++ F)) (hn : μ.next ≤ μ'.next) : finX μ.next E x μ' := ⟨μ', hn, part_self hh.wf, h μ' hh hn⟩
end
theorem w_EndC___init__ : ∀ ds μ Q QX, μ.wf → objBs μ.next ds = true → sp_EndC___init__ ds μ Q QX → ds.length = 2 ∧ wpS c_EndC___init__ (startE N_EndC___init__ ds) μ (outs μ.next Q QX) := by
  intro ds μ Q QX hw ho h
  unfold sp_EndC___init__ at h
  split at h
  · rename_i k z
    obtain ⟨cl, F, rfl, hh, h1⟩ := h
    refine ⟨rfl, ?_⟩
    have one : ∀ (n : Nat) (f : Str) (v : D) (w : Nat) (ν : Sto) (G : Cells) (δ : Env) (O : Outs), n < 5 → setF f v ((eFs cl w).take n) = (eFs cl w).take (n + 1) → cellB ν.next (.ins 15 ((eFs cl w).take (n + 1))) = true → HW ν ((k, .ins 15 ((eFs cl w).take n)) :: G) →
        eSet [15] f δ [v, .obj k] ν O = O.nx δ (ν.put k (.ins 15 ((eFs cl w).take (n + 1)))) ∧ HW (ν.put k (.ins 15 ((eFs cl w).take (n + 1)))) ((k, .ins 15 ((eFs cl w).take (n + 1))) :: G) := fun n f v w ν G δ O hn e hb hν =>
      ⟨by rw [set_gen hν.hd (by rw [List.length_take]; omega), e], hν.put0 hb⟩
    have h0 : HW μ ((k, .ins 15 ((eFs cl μ.next).take 0)) :: F) := hh
    have g1 := fun δ O => one 0 "_other_side" (.str (sideS cl)) μ.next μ F δ O (by decide) rfl rfl h0
    have h1a := (g1 [] (outs 0 Q QX)).2
    have g2 := fun δ O => one 1 "_phase" (.str "closed") μ.next _ F δ O (by decide) rfl rfl h1a
    have h1b := (g2 [] (outs 0 Q QX)).2
    have g3 := fun δ O => one 2 "_reason" .non μ.next _ F δ O (by decide) rfl rfl h1b
    have h1c := (g3 [] (outs 0 Q QX)).2
    have g4 := fun δ O => one 3 "_to_send" (.lst []) μ.next _ F δ O (by decide) rfl rfl h1c
    have h1d := (g4 [] (outs 0 Q QX)).2
    simp [startE, wpS, wpT, wpE, wpA, wpI, wpG, wpGs, wpOpt, outs, wipeE, ePar, c_EndC___init__, N_EndC___init__, fun δ O => (g1 δ O).1, fun δ O => (g2 δ O).1, fun δ O => (g3 δ O).1, fun δ O => (g4 δ O).1, eNew]
    refine ⟨cl, rfl, Sto.new_same, rfl, ?_⟩
    have h2 := (h1d.new0 (c := .ins 13 []) rfl).put0 (c' := wireC (w0 cl)) (wireC_B _ _)
    have g5 := fun δ O => one 4 "_wire" (.obj μ.next) μ.next _ _ δ O (by decide) rfl (by
      show (true && (true && (true && (true && (decide (μ.next < μ.next + 1) && true))))) = true
      simp) h2.swap
    have h3 := (g5 [] (outs 0 Q QX)).2
    refine (congrArg (fun p : Prop => p) (g5 _ _).1).mpr ?_
    exact fin_all h3.wf (Nat.le_succ _) rfl (h1 _ _ h3 (Nat.le_succ _))
  · exact h.elim
end M
end
section
namespace M
open PySem PySem.Spec PyProof.Rows L2
open SX (S S_len S_cat)
theorem w_Client___init__ : ∀ ds μ Q QX, μ.wf → objBs μ.next ds = true → sp_Client___init__ ds μ Q QX → ∃ i fs, ds = [.obj i] ∧ μ.cell i = some (.ins 15 fs) ∧ sp_EndC___init__ [.obj i, .str "server"] μ (fun _ μ1 => wpS c_Client___init__ (startE N_Client___init__ [.obj i]) μ1 (outs μ.next Q QX)) QX := by
  intro ds μ Q QX hw ho h
  unfold sp_Client___init__ at h
  split at h
  · rename_i k
    obtain ⟨F, hh, h1⟩ := h
    refine ⟨k, [], rfl, hh.hd, false, F, rfl, hh, fun μ1 w h2 n1 => ?_⟩
    have lw := h2.lt (k := w) (c := wireC (w0 false)) (List.mem_cons_of_mem _ List.mem_cons_self)
    simp [startE, wpS, wpT, wpE, wpA, wpI, wpG, wpGs, wpOpt, outs, wipeE, ePar, c_Client___init__, N_Client___init__]
    refine stepI h2 (show 5 < 1000 by decide) (by
      show (true && (true && (true && (true && (decide (w < _) && (true && true)))))) = true
      simp [lw]) fun μ2 n2 h3 => ?_
    dsimp only
    have h4 := HW.new (A := [_, _]) (c := .lst []) h3 rfl
    refine stepI h4 (show 6 < 1000 by decide) (by
      show (true && (true && (true && (true && (decide (w < μ2.next + 1) && (true && (decide (μ2.next < μ2.next + 1) && true))))))) = true
      simp; omega) fun μ3 n3 h5 => ?_
    dsimp only
    have h6 := HW.new (A := [_, _, _]) (c := .lst []) h5 rfl
    have n3 : μ3.next = μ2.next + 1 := n3
    refine stepI h6 (show 7 < 1000 by decide) (by
      show (true && (true && (true && (true && (decide (w < μ3.next + 1) && (true && (decide (μ2.next < μ3.next + 1) && (decide (μ3.next < μ3.next + 1) && true)))))))) = true
      simp; omega) fun μ4 n4 h7 => ?_
    dsimp only
    have n4 : μ4.next = μ3.next + 1 := n4
    have h8 := HW.new (A := [_, _, _, _]) (c := .lst []) h7 rfl
    refine stepI h8 (show 8 < 1000 by decide) (by
      show (true && (true && (true && (true && (decide (w < μ4.next + 1) && (true && (decide (μ2.next < μ4.next + 1) && (decide (μ3.next < μ4.next + 1) && (decide (μ4.next < μ4.next + 1) && true))))))))) = true
      simp; omega) fun μ5 n5 h9 => ?_
    dsimp only
    have n5 : μ5.next = μ4.next + 1 := n5
    have h10 := HW.new (A := [_, _, _, _, _]) (c := .lst []) h9 rfl
    refine stepI h10 (show 9 < 1000 by decide) (by
      show (true && (true && (true && (true && (decide (w < μ5.next + 1) && (true && (decide (μ2.next < μ5.next + 1) && (decide (μ3.next < μ5.next + 1) && (decide (μ4.next < μ5.next + 1) && (decide (μ5.next < μ5.next + 1) && true)))))))))) = true
      simp; omega) fun μ6 n6 h11 => ?_
    dsimp only
    have n6 : μ6.next = μ5.next + 1 := n6
    exact fin_L (R' := ⟨w, μ2.next, μ3.next, μ4.next, μ5.next, initL⟩) h1 h11 rfl (by omega) rfl
  · exact h.elim
theorem w_Client_phase : ∀ ds μ Q QX, μ.wf → objBs μ.next ds = true → sp_Client_phase ds μ Q QX → ds.length = 1 ∧ wpS c_Client_phase (startE N_Client_phase ds) μ (outs μ.next Q QX) := by
  intro ds μ Q QX hw ho h
  unfold sp_Client_phase at h
  split at h
  · obtain ⟨R, F, hh, h1⟩ := h
    refine ⟨rfl, ?_⟩
    simp [startE, wpS, wpT, wpE, wpA, wpI, wpG, wpGs, wpOpt, outs, wipeE, ePar, c_Client_phase, N_Client_phase, fc_phase hh.cli.j]
    exact fin_same hw rfl h1
  · exact h.elim
theorem w_Client_waiting : ∀ ds μ Q QX, μ.wf → objBs μ.next ds = true → sp_Client_waiting ds μ Q QX → ds.length = 1 ∧ wpS c_Client_waiting (startE N_Client_waiting ds) μ (outs μ.next Q QX) := by
  intro ds μ Q QX hw ho h
  unfold sp_Client_waiting at h
  split at h
  · obtain ⟨R, F, hh, h1⟩ := h
    refine ⟨rfl, ?_⟩
    simp [startE, wpS, wpT, wpE, wpA, wpI, wpG, wpGs, wpOpt, outs, wipeE, ePar, c_Client_waiting, N_Client_waiting, fc_send hh.cli.j, len_iL]
    exact fin_same hw rfl h1
  · exact h.elim
theorem w_Client_session : ∀ ds μ Q QX, μ.wf → objBs μ.next ds = true → sp_Client_session ds μ Q QX → ds.length = 1 ∧ wpS c_Client_session (startE N_Client_session ds) μ (outs μ.next Q QX) := by
  intro ds μ Q QX hw ho h
  unfold sp_Client_session at h
  split at h
  · obtain ⟨R, F, hh, h1⟩ := h
    refine ⟨rfl, ?_⟩
    simp [startE, wpS, wpT, wpE, wpA, wpI, wpG, wpGs, wpOpt, outs, wipeE, ePar, c_Client_session, N_Client_session, fc_session hh.cli.j]
    exact fin_same hw rfl h1
  · exact h.elim
theorem w_Client_handed : ∀ ds μ Q QX, μ.wf → objBs μ.next ds = true → sp_Client_handed ds μ Q QX → ds.length = 1 ∧ wpS c_Client_handed (startE N_Client_handed ds) μ (outs μ.next Q QX) := by
  intro ds μ Q QX hw ho h
  unfold sp_Client_handed at h
  split at h
  · obtain ⟨R, F, hh, h1⟩ := h
    refine ⟨rfl, ?_⟩
    simp [startE, wpS, wpT, wpE, wpA, wpI, wpG, wpGs, wpOpt, outs, wipeE, ePar, c_Client_handed, N_Client_handed, fc_batches hh.cli.j, len_obj hh.cli.b, List.length_map]
    exact fin_same hw rfl h1
  · exact h.elim
theorem w_Client_received : ∀ ds μ Q QX, μ.wf → objBs μ.next ds = true → sp_Client_received ds μ Q QX → ds.length = 1 ∧ wpS c_Client_received (startE N_Client_received ds) μ (outs μ.next Q QX) := by
  intro ds μ Q QX hw ho h
  unfold sp_Client_received at h
  split at h
  · obtain ⟨R, F, hh, h1⟩ := h
    refine ⟨rfl, ?_⟩
    simp [startE, wpS, wpT, wpE, wpA, wpI, wpG, wpGs, wpOpt, outs, wipeE, ePar, c_Client_received, N_Client_received, fc_outcomes hh.cli.j, len_obj hh.cli.o, List.length_map]
    exact fin_same hw rfl h1
  · exact h.elim
section
variable {μ μ' : Sto} {j : Nat} {R R' : RC} {F : Cells} {δ : Env} {Q : Post} {E : XPost} {O : Outs}
def CL.sC (l : List Cmd) (L : CL) : CL := ⟨L.ph, L.why, L.snd, L.w, L.ses, l, L.bats, L.outs, L.reps⟩
theorem HW.upa (h : HW μ (cliC j R ++ F)) (l : List Cmd) : HW (μ.put R.a (.lst (l.map cmdD))) (cliC j (R.up (R.L.sC l)) ++ F) := HW.put (A := [_, _]) (c' := .lst (l.map cmdD)) h (objBs_map fun c _ => cmdD_B _ c)
end
theorem w_Client__added : ∀ ds μ Q QX, μ.wf → objBs μ.next ds = true → sp_Client__added ds μ Q QX → ds.length = 3 ∧ wpS c_Client__added (startE N_Client__added ds) μ (outs μ.next Q QX) := by
  intro ds μ Q QX hw ho h
  unfold sp_Client__added at h
  split at h
  · rename_i j d ok
    obtain ⟨R, F, hh, hok, h1⟩ := h
    refine ⟨rfl, ?_⟩
    have hl := hok.c.1
    simp [startE, wpS, wpT, wpE, wpA, wpI, wpG, wpGs, wpOpt, outs, wipeE, ePar, c_Client__added, N_Client__added, tru_bl, eRse, fc_commands hh.cli.j, len_obj hh.cli.a, td_obj hh.cli.a, cmp_eq_int, List.length_map]
    cases ok with
    | false =>
      rw [if_pos rfl] at h1
      exact err_L h1 hh (Nat.le_refl _)
    | true =>
      rw [if_neg (by decide)] at h1
      rw [if_pos rfl]
      by_cases e : R.L.cmds.length = 20
      · rw [if_pos e] at h1
        rw [if_pos (by omega)]
        exact err_L h1 hh (Nat.le_refl _)
      · rw [if_neg e] at h1
        rw [if_neg (by omega)]
        obtain ⟨c, rfl, h1⟩ := h1
        rw [app_c hh.cli.a (by rw [List.length_map]; omega)]
        have h2 := hh.upa (R.L.cmds ++ [c])
        have e2 : R.L.cmds.map cmdD ++ [cmdD c] = (R.L.cmds ++ [c]).map cmdD := by rw [List.map_append]; rfl
        rw [e2]
        generalize hm : μ.put R.a (.lst ((R.L.cmds ++ [c]).map cmdD)) = μ2 at h2 ⊢
        have hn2 : μ2.next = μ.next := by rw [← hm]; rfl
        have ea : (R.up (R.L.sC (R.L.cmds ++ [c]))).a = R.a := rfl
        have hla := len_obj (Q := fun x μ1 => binD .Sub x (.int 1) μ1 (finP μ.next Q)) (E := fun x μ' => finX μ.next QX x μ') h2.cli.a
        simp [startE, wpS, wpT, wpE, wpA, wpI, wpG, wpGs, wpOpt, outs, wipeE, ePar, fc_commands h2.cli.j]
        rw [hla]
        have e3 : (((R.L.sC (R.L.cmds ++ [c])).cmds.length : Int) - 1) = (R.L.cmds.length : Int) := by
          show ((R.L.cmds ++ [c]).length : Int) - 1 = _
          rw [List.length_append, List.length_singleton]
          omega
        have h1 : postL j F μ (addL c R.L) (.int R.L.cmds.length) Q := h1
        rw [b_sub, List.length_map]
        show finP μ.next Q (.int (((R.L.sC (R.L.cmds ++ [c])).cmds.length : Int) - 1)) _
        rw [e3]
        exact fin_L h1 h2 rfl (by omega) rfl
  · exact h.elim
section
variable {μ μ' : Sto} {j : Nat} {R R' : RC} {F : Cells} {δ : Env} {Q : Post} {E : XPost} {O : Outs}
theorem any_spB {f : List Nat → Bool} {d : D} (h : anyD d μ) (q : Q (.bl (strIf f d).isSome) μ) : spB f [d] μ Q E := by
  unfold spB
  obtain ⟨h1, h2⟩ := h
  split
  · rename_i x e
    cases e
    refine ⟨by have := h2 x rfl; have := sizeLine_eq; omega, ?_⟩
    unfold strIf at q
    dsimp only at q
    cases hf : f x.cps.toList with
    | true => rw [hf] at q; exact q
    | false => rw [hf] at q; exact q
  · rename_i d' hx e
    cases e
    refine ⟨h1, ?_⟩
    have : strIf f d = none := by
      unfold strIf
      split
      · exact absurd rfl (hx _)
      · rfl
    rw [this] at q
    exact q
  · rename_i h3 h4
    exact absurd rfl (h4 d)
theorem strIf_eq {f : List Nat → Bool} {d : D} {x : Str} (h : strIf f d = some x) : d = .str x ∧ f x.cps.toList = true := by
  unfold strIf at h
  split at h
  · split at h
    · rename_i e
      cases h
      exact ⟨rfl, e⟩
    · cases h
  · cases h
theorem add_ap {d : D} {c : Option Cmd} (h : addS j μ c Q E) (hc : ∀ x, c = some x → d = cmdD x) : sp_Client__added [.obj j, d, .bl c.isSome] μ (fun v μ' => finP μ.next Q v μ') (fun x μ' => finX μ.next E x μ') := by
  obtain ⟨R, F, hh, hok, h1⟩ := h
  refine ⟨R, F, hh, hok, ?_⟩
  cases c with
  | none =>
    have e0 : (none : Option Cmd).isSome = false := rfl
    simp only [e0, if_true]
    exact fun μ' h2 hn => err_L h1 h2 hn
  | some c =>
    rw [if_neg (show ¬ (some c).isSome = false by simp)]
    dsimp only at h1
    by_cases e : R.L.cmds.length = 20
    · rw [if_pos e] at h1
      rw [if_pos e]
      exact fun μ' h2 hn => err_L h1 h2 hn
    · rw [if_neg e] at h1
      rw [if_neg e]
      exact ⟨c, hc c rfl, fun μ' R' h2 e2 hn => fin_L h1 h2 e2 hn rfl⟩
end
theorem w_Client_forget : ∀ ds μ Q QX, μ.wf → objBs μ.next ds = true → sp_Client_forget ds μ Q QX → ds.length = 2 ∧ wpS c_Client_forget (startE N_Client_forget ds) μ (outs μ.next Q QX) := by
  intro ds μ Q QX hw ho h
  unfold sp_Client_forget at h
  split at h
  · rename_i j d
    obtain ⟨ha, h1⟩ := h
    have h2 := h1
    obtain ⟨R, F, hh, hok, _⟩ := h2
    refine ⟨rfl, ?_⟩
    simp [startE, wpS, wpT, wpE, wpA, wpI, wpG, wpGs, wpOpt, outs, wipeE, ePar, c_Client_forget, N_Client_forget, mc_added hh]
    refine ⟨two_le, any_spB ha ?_⟩
    have e : (strIf isName d).isSome = ((strIf isName d).map Cmd.forget).isSome := by cases strIf isName d <;> rfl
    rw [e]
    refine add_ap h1 fun x hx => ?_
    obtain ⟨y, hy, rfl⟩ := Option.map_eq_some_iff.mp hx
    obtain ⟨rfl, _⟩ := strIf_eq hy
    rfl
  · exact h.elim
theorem w_Client_close : ∀ ds μ Q QX, μ.wf → objBs μ.next ds = true → sp_Client_close ds μ Q QX → ds.length = 2 ∧ wpS c_Client_close (startE N_Client_close ds) μ (outs μ.next Q QX) := by
  intro ds μ Q QX hw ho h
  unfold sp_Client_close at h
  split at h
  · rename_i j d
    obtain ⟨ha, h1⟩ := h
    have h2 := h1
    obtain ⟨R, F, hh, hok, _⟩ := h2
    refine ⟨rfl, ?_⟩
    simp [startE, wpS, wpT, wpE, wpA, wpI, wpG, wpGs, wpOpt, outs, wipeE, ePar, c_Client_close, N_Client_close, mc_added hh]
    refine ⟨two_le, any_spB ha ?_⟩
    have e : (strIf isName d).isSome = ((strIf isName d).map Cmd.close).isSome := by cases strIf isName d <;> rfl
    rw [e]
    refine add_ap h1 fun x hx => ?_
    obtain ⟨y, hy, rfl⟩ := Option.map_eq_some_iff.mp hx
    obtain ⟨rfl, _⟩ := strIf_eq hy
    rfl
  · exact h.elim
theorem w_Client_prepare : ∀ ds μ Q QX, μ.wf → objBs μ.next ds = true → sp_Client_prepare ds μ Q QX → ds.length = 3 ∧ wpS c_Client_prepare (startE N_Client_prepare ds) μ (outs μ.next Q QX) := by
  intro ds μ Q QX hw ho h
  unfold sp_Client_prepare at h
  split at h
  · rename_i j d e
    obtain ⟨ha, hb, h1⟩ := h
    have h2 := h1
    obtain ⟨R, F, hh, hok, _⟩ := h2
    refine ⟨rfl, ?_⟩
    simp [startE, wpS, wpT, wpE, wpA, wpI, wpG, wpGs, wpOpt, outs, wipeE, ePar, c_Client_prepare, N_Client_prepare, mc_added hh]
    refine ⟨three_le, any_spB ha ?_⟩
    have key : ∀ x, ((strIf isName d).bind fun x => (strIf isStrg e).map fun y => Cmd.prepare x y) = some x → D.tup [.str "prepare", d, e] = cmdD x := fun x hx => by
      obtain ⟨y, hy, hz⟩ := Option.bind_eq_some_iff.mp hx
      obtain ⟨z, hz2, e3⟩ := Option.map_eq_some_iff.mp hz
      subst e3
      obtain ⟨rfl, _⟩ := strIf_eq hy
      obtain ⟨rfl, _⟩ := strIf_eq hz2
      rfl
    have fin := add_ap h1 key
    cases e1 : strIf isName d with
    | none =>
      rw [e1] at fin
      exact fin
    | some x =>
      dsimp only [Option.isSome]
      rw [if_pos rfl]
      refine any_spB (f := isStrg) hb ?_
      rw [e1] at fin
      cases e2 : strIf isStrg e with
      | none =>
        rw [e2] at fin
        exact fin
      | some y =>
        rw [e2] at fin
        exact fin
  · exact h.elim
theorem w_Client_run : ∀ ds μ Q QX, μ.wf → objBs μ.next ds = true → sp_Client_run ds μ Q QX → ds.length = 3 ∧ wpS c_Client_run (startE N_Client_run ds) μ (outs μ.next Q QX) := by
  intro ds μ Q QX hw ho h
  unfold sp_Client_run at h
  split at h
  · rename_i j d e
    obtain ⟨ha, hb, h1⟩ := h
    have h2 := h1
    obtain ⟨R, F, hh, hok, _⟩ := h2
    refine ⟨rfl, ?_⟩
    simp [startE, wpS, wpT, wpE, wpA, wpI, wpG, wpGs, wpOpt, outs, wipeE, ePar, c_Client_run, N_Client_run, mc_added hh]
    refine ⟨three_le, any_spB ha ?_⟩
    have key : ∀ x, ((strIf isName d).bind fun x => if intIn e 0 1000 = true then some (Cmd.run x (intOf e)) else none) = some x → D.tup [.str "run", d, e] = cmdD x := fun x hx => by
      obtain ⟨y, hy, hz⟩ := Option.bind_eq_some_iff.mp hx
      obtain ⟨rfl, _⟩ := strIf_eq hy
      split at hz
      · rename_i he
        cases hz
        cases e with
        | int i => rfl
        | _ => cases he
      · cases hz
    have fin := add_ap h1 key
    cases e1 : strIf isName d with
    | none =>
      rw [e1] at fin
      exact fin
    | some x =>
      dsimp only [Option.isSome]
      rw [if_pos rfl]
      refine ⟨hb.1, ?_⟩
      rw [e1] at fin
      cases e2 : intIn e 0 1000 with
      | false =>
        rw [e2] at fin
        exact fin
      | true =>
        rw [e2] at fin
        exact fin
  · exact h.elim
theorem w_told : ∀ ds μ Q QX, μ.wf → objBs μ.next ds = true → sp_told ds μ Q QX → ds.length = 1 ∧ wpS c_told (startE N_told ds) μ (outs μ.next Q QX) := by
  intro ds μ Q QX hw ho h
  unfold sp_told at h
  split at h
  · obtain ⟨r, rfl, h1⟩ := h
    refine ⟨rfl, ?_⟩
    have fin := fin_same hw (repD_B μ.next r) h1
    cases r with
    | rows l m =>
      simp [startE, wpS, wpT, wpE, wpA, wpI, wpG, wpGs, wpOpt, outs, wipeE, ePar, c_told, N_told, repD, ixt_0, ixt_1, ixt_2, cmp_eq_str, rsD, spLst, sq_lst]
      exact ⟨three_le, fin⟩
    | _ =>
      simp [startE, wpS, wpT, wpE, wpA, wpI, wpG, wpGs, wpOpt, outs, wipeE, ePar, c_told, N_told, repD, ixt_0, ixt_1, ixt_2, cmp_eq_str]
      rw [if_neg (by decide)]
      exact fin
  · exact h.elim
end M
end
section
namespace M
open PySem PySem.Spec PyProof.Rows L2
open SX (S S_len S_cat)
theorem GT.len1000 {q : List Nat → Bool} {x : Str} (h : GT' q x) : x.length ≤ 1000 := by
  have := GT.n h
  rw [str_cps] at this
  omega
theorem GK.small {k : Key} (h : GK k) : smallK k := by
  cases k with
  | inl i => exact trivial
  | inr x => exact GT.len1000 (x := x) (q := isText) h
theorem GC.cli {m : Ms} (h : GC m) : cliOk m := by
  cases m with
  | two w a b => exact h.1
  | cmd c =>
    cases c with
    | prepare n s => exact ⟨GT.len1000 h.1, GT.len1000 h.2⟩
    | bind p n vs => exact ⟨GT.len1000 h.1, GT.len1000 h.2.1, by have := h.2.2.2; omega, fun k hk => GK.small (h.2.2.1 k hk)⟩
    | run p k => exact GT.len1000 h.1
    | forget n => exact GT.len1000 (x := n) (q := isName) h
    | close n => exact GT.len1000 (x := n) (q := isName) h
  | _ => exact h.elim
theorem w_Client__send : ∀ ds μ Q QX, μ.wf → objBs μ.next ds = true → sp_Client__send ds μ Q QX → ds.length = 2 ∧ wpS c_Client__send (startE N_Client__send ds) μ (outs μ.next Q QX) := by
  intro ds μ Q QX hw ho h
  unfold sp_Client__send at h
  split at h
  · rename_i j d
    obtain ⟨R, F, m, hh, rfl, hm, hl, h1⟩ := h
    refine ⟨rfl, ?_⟩
    simp [startE, wpS, wpT, wpE, wpA, wpI, wpG, wpGs, wpOpt, outs, wipeE, ePar, c_Client__send, N_Client__send, fc_send hh.cli.j]
    refine ⟨m, rfl, hm, add_iL.mpr ⟨by have := sz16; omega, ?_⟩⟩
    refine st_send (l := R.L.snd ++ clientB m) hh fun μ2 n2 h2 => ?_
    exact fin_L h1 h2 rfl (by show μ.next ≤ μ2.next; omega) rfl
  · exact h.elim
theorem cmd_len {c : Cmd} (h : GC (.cmd c)) : (clientB (.cmd c)).length ≤ 4003 := cliB_len h
def sendCs (cs : List Cmd) (L : CL) : CL := { L with snd := L.snd ++ cs.flatMap fun c => clientB (.cmd c) }
theorem w_Client__send_batch : ∀ ds μ Q QX, μ.wf → objBs μ.next ds = true → sp_Client__send_batch ds μ Q QX → ds.length = 2 ∧ wpS c_Client__send_batch (startE N_Client__send_batch ds) μ (outs μ.next Q QX) := by
  intro ds μ Q QX hw ho h
  unfold sp_Client__send_batch at h
  split at h
  · rename_i j n0
    obtain ⟨R, F, hh, hn1, hn2, hb, hs, h1⟩ := h
    refine ⟨rfl, ?_⟩
    obtain ⟨n, rfl⟩ : ∃ n : Nat, n0 = (n : Int) + 1 := ⟨(n0 - 1).toNat, by omega⟩
    have hlt : n < R.L.bats.length := by omega
    have hcs := hb _ (List.getElem_mem hlt)
    generalize hbat : R.L.bats[n] = cs at hcs
    have hget : R.L.bats[n]? = some cs := by rw [List.getElem?_eq_getElem hlt, hbat]
    have e1 : (n : Int) + 1 - 1 = (n : Int) := by omega
    simp [startE, wpS, wpT, wpE, wpA, wpI, wpG, wpGs, wpOpt, outs, wipeE, ePar, c_Client__send_batch, N_Client__send_batch, fc_batches hh.cli.j, b_sub, e1]
    rw [ixc_at hh.cli.b (y := cmdsD cs) (by rw [atI_nat', List.getElem?_map, hget]; rfl)]
    have e2 : ((n : Int) + 1).toNat = n + 1 := by omega
    rw [e2] at h1
    refine for_gen (fun i δ μ' => ∃ R' o, δ = [some (.obj j), some (.int ((n : Int) + 1)), o] ∧ HW μ' (cliC j R' ++ F) ∧ R'.L = sendCs (cs.take i) R.L ∧ μ.next ≤ μ'.next) ⟨R, none, rfl, hh, ?_, Nat.le_refl _⟩ ?_ ?_
    · rw [List.take_zero]
      unfold sendCs
      rw [List.flatMap_nil, List.append_nil]
    · rintro i x LW hx hLW δ μ' ⟨R', o, rfl, h2, e3, hn⟩
      rw [List.getElem?_map] at hx
      obtain ⟨c, hc, rfl⟩ := Option.map_eq_some_iff.mp hx
      have hcg := hcs.2 c (List.mem_of_getElem? hc)
      refine ⟨trivial, ?_⟩
      simp [startE, wpS, wpT, wpE, wpA, wpI, wpG, wpGs, wpOpt, outs, wipeE, ePar, b1_Client__send_batch, mc_send h2]
      have hlen : (sendCs (cs.take i) R.L).snd.length ≤ R.L.snd.length + 4003 * 20 := by
        show (R.L.snd ++ _).length ≤ _
        rw [List.length_append]
        have := cliF_len (cs := cs.take i) (n := 20) (fun c m => hcs.2 c (List.mem_of_mem_take m)) (by have := hcs.1; rw [List.length_take]; omega)
        omega
      refine ⟨R', F, .cmd c, h2, rfl, GC.cli hcg, ?_, fun μ3 R3 h3 e4 hn3 => hLW _ _ ⟨R3, _, rfl, h3, ?_, by omega⟩⟩
      · rw [e3]
        have := cmd_len hcg
        omega
      · rw [e4, e3]
        have e5 : cs.take (i + 1) = cs.take i ++ [c] := by
          rw [List.take_add_one, hc]
          rfl
        rw [e5]
        unfold sendL sendCs
        rw [List.flatMap_append, List.flatMap_cons, List.flatMap_nil, List.append_nil, ← List.append_assoc]
    · rintro δ μ' ⟨R', o, rfl, h2, e3, hn⟩
      rw [List.length_map, List.take_length] at e3
      refine ⟨trivial, ?_⟩
      simp [startE, wpS, wpT, wpE, wpA, wpI, wpG, wpGs, wpOpt, outs, wipeE, ePar, r1_Client__send_batch, fc_outcomes h2.cli.j, len_obj h2.cli.o, mc_send h2, List.length_map]
      refine ⟨three_le, R', F, .two "sync" ((n : Int) + 1) R'.L.outs.length, h2, rfl, .inr rfl, ?_, fun μ3 R3 h3 e4 hn3 => fin_L h1 h3 ?_ (by omega) rfl⟩
      · rw [e3]
        show (R.L.snd ++ _).length + _ ≤ _
        rw [List.length_append]
        have := cliF_len (cs := cs) (n := 20) hcs.2 hcs.1
        have : (clientB (.two "sync" ((n : Int) + 1) (sendCs cs R.L).outs.length)).length = 11 := by
          show (wholeB 7 (bigB 4 _ ++ bigB 4 _)).length = 11
          rw [wholeB_len, List.length_append, bigB_len, bigB_len]
        omega
      · rw [e4, e3]
        unfold sendL sendCs sendBat batB
        show CL.mk _ _ _ _ _ _ _ _ _ = CL.mk _ _ _ _ _ _ _ _ _
        have e6 : n + 1 - 1 = n := rfl
        rw [e6, hget]
        dsimp only [Option.getD]
        rw [List.append_assoc]
        rfl
  · exact h.elim
theorem w_Client_sync : ∀ ds μ Q QX, μ.wf → objBs μ.next ds = true → sp_Client_sync ds μ Q QX → ds.length = 1 ∧ wpS c_Client_sync (startE N_Client_sync ds) μ (outs μ.next Q QX) := by
  intro ds μ Q QX hw ho h
  unfold sp_Client_sync at h
  split at h
  · rename_i j
    obtain ⟨R, F, hh, hok, h1⟩ := h
    refine ⟨rfl, ?_⟩
    have hbl := hok.bl
    simp [startE, wpS, wpT, wpE, wpA, wpI, wpG, wpGs, wpOpt, outs, wipeE, ePar, c_Client_sync, N_Client_sync, fc_batches hh.cli.j, len_obj hh.cli.b, cmp_eq_int, List.length_map, eRse]
    by_cases e : R.L.bats.length = 50
    · rw [if_pos e] at h1
      rw [if_pos (by omega)]
      exact err_L h1 hh (Nat.le_refl _)
    · rw [if_neg e] at h1
      rw [if_neg (by omega)]
      have hok2 := hand_ok hok e
      simp [startE, wpS, wpT, wpE, wpA, wpI, wpG, wpGs, wpOpt, outs, wipeE, ePar, r1_Client_sync, fc_batches hh.cli.j, td_obj hh.cli.b, fc_commands hh.cli.j, hh.cli.a]
      -- the list of commands is given away
      have hb2 : (μ.del R.a).cell R.b = some (.lst (R.L.bats.map cmdsD)) := by
        have nd := hh.nd
        have ne : R.b ≠ R.a := by
          intro z
          simp [cliC, z] at nd
        rw [Sto.del_ne ne]
        exact hh.cli.b
      rw [app_c hb2 (by rw [List.length_map]; omega)]
      have e2 : R.L.bats.map cmdsD ++ [.lst (R.L.cmds.map cmdD)] = (R.L.bats ++ [R.L.cmds]).map cmdsD := by rw [List.map_append]; rfl
      rw [e2]
      have h2 : HW (μ.del R.a) ((j, insC R) :: (R.w, wireC R.L.w) :: (R.b, .lst (R.L.bats.map cmdsD)) :: (R.o, .lst (R.L.outs.map outcD)) :: (R.r, .lst (R.L.reps.map repD)) :: F) := by
        refine HW.del0 (k := R.a) (c := .lst (R.L.cmds.map cmdD)) (hh.perm ?_)
        exact (List.perm_middle (a := (R.a, Cell.lst (R.L.cmds.map cmdD))) (l₁ := [(j, insC R), (R.w, wireC R.L.w)]) (l₂ := (R.b, .lst (R.L.bats.map cmdsD)) :: (R.o, .lst (R.L.outs.map outcD)) :: (R.r, .lst (R.L.reps.map repD)) :: F))
      have h3 := HW.put (A := [_, _]) (c' := .lst ((R.L.bats ++ [R.L.cmds]).map cmdsD)) h2 (objBs_map fun c _ => cmdsD_B _ c)
      generalize hm : (μ.del R.a).put R.b (.lst ((R.L.bats ++ [R.L.cmds]).map cmdsD)) = μ3 at h3 ⊢
      have n3 : μ3.next = μ.next := by rw [← hm]; rfl
      simp [startE, wpS, wpT, wpE, wpA, wpI, wpG, wpGs, wpOpt, outs, wipeE, ePar, r2_Client_sync]
      have h4 := HW.new (A := [_, _]) (c := .lst []) h3 rfl
      have lt : ∀ {n}, n < μ.next → n < μ3.next + 1 := fun h => by omega
      have l0 := hh.ltc
      rw [sc_commands h4.hd]
      have h5 := h4.put0 (c' := insC (R.ua μ3.next)) (insC_B (R := R.ua μ3.next) (lt l0.w) (Nat.lt_succ_self _) (lt l0.b) (lt l0.o) (lt l0.r))
      generalize hm5 : (μ3.new (.lst [])).put j (insC (R.ua μ3.next)) = μ5 at h5 ⊢
      have n5 : μ5.next = μ3.next + 1 := by rw [← hm5]; rfl
      have h6 : HW μ5 (cliC j ((R.up (handL R.L)).ua μ3.next) ++ F) := h5
      generalize hR : (R.up (handL R.L)).ua μ3.next = R6 at h6
      have e6 : R6.L = handL R.L := by rw [← hR]; rfl
      have eb : R6.L.bats.length = R.L.bats.length + 1 := by
        rw [e6]
        show (R.L.bats ++ [R.L.cmds]).length = _
        rw [List.length_append, List.length_singleton]
      simp [startE, wpS, wpT, wpE, wpA, wpI, wpG, wpGs, wpOpt, outs, wipeE, ePar, r3_Client_sync, fc_phase h6.cli.j, cmp_eq_str, fc_batches h6.cli.j, len_obj h6.cli.b, List.length_map, mc_send_batch h6]
      unfold syncL at h1
      have e7 : R6.L.ph = R.L.ph := by rw [e6]; rfl
      rw [e7]
      have fin : ∀ {μ8 : Sto} {R8 : RC} (δ : Env), HW μ8 (cliC j R8 ++ F) → R8.L = (if R.L.ph = "open" then sendBat (R.L.bats.length + 1) (handL R.L) else handL R.L) → μ.next ≤ μ8.next → wpS r4_Client_sync [some (.obj j)] μ8 (outs μ.next Q QX) := by
        intro μ8 R8 δ h8 e8 n8
        have eb8 : R8.L.bats.length = R.L.bats.length + 1 := by
          rw [e8]
          have : (handL R.L).bats.length = R.L.bats.length + 1 := by
            show (R.L.bats ++ [R.L.cmds]).length = _
            rw [List.length_append, List.length_singleton]
          split
          · exact this
          · exact this
        simp [startE, wpS, wpT, wpE, wpA, wpI, wpG, wpGs, wpOpt, outs, wipeE, ePar, r4_Client_sync, fc_batches h8.cli.j, len_obj h8.cli.b, List.length_map, eb8]
        exact fin_L h1 h8 e8 n8 rfl
      by_cases ho : R.L.ph = "open"
      · rw [if_pos ho]
        refine ⟨R6, F, h6, by omega, Int.le_refl _, by rw [e6]; exact hok2.b, ?_, fun μ8 R8 h8 e8 n8 => ?_⟩
        · rw [e6]
          have := hok2.s5
          omega
        · refine fin [] h8 ?_ (by omega)
          rw [if_pos ho, e8, e6]
          have : ((handL R.L).bats.length : Int).toNat = R.L.bats.length + 1 := by
            rw [e6] at eb
            omega
          rw [this]
      · rw [if_neg ho]
        exact fin [] h6 (by rw [if_neg ho, e6]) (by omega)
  · exact h.elim
theorem out_it {ds : List D} {n : Nat} {D0 : D} {μ : Sto} {Q : Post} {X : XPost} (hl : ds.length ≤ sizeLine) (hr : ∀ d ∈ ds, ∃ r, d = repD r) (h : Q (.obj μ.next) (μ.new (.lst ds))) {a b c : Option D} : eCpM m1_Client_outcome [a, b, c, some (.lst ds), none] [] μ Q X := by
  unfold eCpM m1_Client_outcome
  dsimp only [wpI, wpE, itD]
  refine loopC_map (fun d => d) trivial (fun x hx N hN => ?_) hl ?_
  · obtain ⟨r, rfl⟩ := hr x hx
    exact ⟨r, rfl, hN⟩
  · rw [List.map_id']
    exact h
theorem w_Client_outcome : ∀ ds μ Q QX, μ.wf → objBs μ.next ds = true → sp_Client_outcome ds μ Q QX → ds.length = 2 ∧ wpS c_Client_outcome (startE N_Client_outcome ds) μ (outs μ.next Q QX) := by
  intro ds μ Q QX hw ho h
  unfold sp_Client_outcome at h
  split at h
  · rename_i j d
    obtain ⟨R, F, hh, hok, hty, h1⟩ := h
    refine ⟨rfl, ?_⟩
    simp [startE, wpS, wpT, wpE, wpA, wpI, wpG, wpGs, wpOpt, outs, wipeE, ePar, c_Client_outcome, N_Client_outcome, fc_batches hh.cli.j, len_obj hh.cli.b, List.length_map, tru_bl, eRse]
    refine ⟨hty, ?_⟩
    cases e : intIn d 1 R.L.bats.length with
    | false =>
      rw [e] at h1
      rw [if_pos rfl] at h1
      rw [tru_bl, if_neg (by decide)]
      exact err_L h1 hh (Nat.le_refl _)
    | true =>
      rw [e] at h1
      rw [if_neg (by decide)] at h1
      rw [tru_bl, if_pos rfl]
      obtain ⟨i, rfl, hi1, hi2⟩ : ∃ i, d = .int i ∧ 1 ≤ i ∧ i ≤ R.L.bats.length := by
        unfold intIn at e
        split at e
        · rename_i i
          rw [Bool.and_eq_true, decide_eq_true_eq, decide_eq_true_eq] at e
          exact ⟨i, rfl, e⟩
        · cases e
      obtain ⟨n, rfl⟩ : ∃ n : Nat, i = (n : Int) + 1 := ⟨(i - 1).toNat, by omega⟩
      have e1 : (n : Int) + 1 - 1 = (n : Int) := by omega
      have e2 : (intOf (.int ((n : Int) + 1))).toNat - 1 = n := by
        show ((n : Int) + 1).toNat - 1 = n
        omega
      rw [e2] at h1
      simp [startE, wpS, wpT, wpE, wpA, wpI, wpG, wpGs, wpOpt, outs, wipeE, ePar, fc_outcomes hh.cli.j, len_obj hh.cli.o, List.length_map, c_gt, b_sub, e1]
      by_cases hlt : n < R.L.outs.length
      · rw [List.getElem?_eq_getElem hlt] at h1
        rw [if_neg (by omega)]
        dsimp only at h1
        have hmem := hok.ol _ (List.getElem_mem hlt)
        generalize hoo : R.L.outs[n] = oo at h1 hmem
        obtain ⟨s, rs⟩ := oo
        rw [ixc_at hh.cli.o (y := outcD (s, rs)) (by rw [atI_nat', List.getElem?_map, List.getElem?_eq_getElem hlt, hoo]; rfl)]
        refine ⟨rfl, rfl, ?_⟩
        refine out_it (D0 := .non) (n := 0) (by have := sizeLine_eq; rw [List.length_map]; omega) (fun d hd => ?_) ⟨two_le, ?_⟩
        · obtain ⟨r, _, rfl⟩ := List.mem_map.mp hd
          exact ⟨r, rfl⟩
        · have h2 := hh.new0 (c := .lst (rs.map repD)) (repL_B _ rs)
          refine fin_all h2.wf (Nat.le_succ _) ?_ (h1 _ _ h2 (Nat.le_succ _) (Nat.le_refl _))
          show (true && (decide (μ.next < μ.next + 1) && true)) = true
          simp
      · rw [List.getElem?_eq_none (by omega)] at h1
        rw [if_pos (by omega)]
        exact fin_same hw rfl h1
  · exact h.elim
end M
end
section
namespace M
open PySem PySem.Spec PyProof.Rows L2
section
variable {B : Bs} {T : List Addr} {cls : Nat → Addr} {k : Nat}
def spAll : Spec := fun ds μ Q _ => match ds with
  | [d] => ∃ bs : List Bool, asL d μ = some (bs.map .bl) ∧ Q (.bl (bs.all id)) μ
  | _ => False
theorem reps_bls {K : PySem.W.Frag} {w : Vw} : ∀ {bs : List Bool} {xs : List V}, Reps K w (bs.map .bl) xs → xs = bs.map V.bl
  | [], _, h => by cases (show _ = [] from h); rfl
  | b :: bs, _, ⟨x, r, e, h, t⟩ => by
    have h : x = .bl b := h
    subst e h
    rw [reps_bls t]
    rfl
theorem c_all (hm : B.mg "all" = none) : CalC B T cls k "all" spAll := by
  refine c_bi hm (by decide) (by decide) (show bootBuiltins "all" = some (.builtin "all") by decide +kernel) (.inl ⟨_, rfl⟩) (fun _ _ _ _ h => h) fun X hB hc hr pins s σ S us vs ds QM Q I r R rr hw hq => ?_
  unfold spAll at hw
  split at hw
  · rename_i d
    obtain ⟨bs, e1, q⟩ := hw
    obtain ⟨x, rfl, q1⟩ := Reps.inv1 rr
    obtain ⟨a, xs, rfl, hs, r2⟩ := asL_rep R q1 e1
    rw [reps_bls r2] at hs
    exact cr_all hc pins s σ S.H _ us Q I r ⟨a, bs, rfl, hs, hq S (.bl _) _ (.refl _) R rfl q⟩
  · exact hw.elim
end
end M
end
section
namespace M
open PySem PySem.Spec PyProof.Rows L2
open SX (S S_len S_cat)
def keyIf (d : D) : Option Key := match d with
  | .int i => if -2147483648 ≤ i ∧ i ≤ 2147483647 then some (.inl i) else none
  | .str x => if isText x.cps.toList = true then some (.inr x) else none
  | _ => none
def keysIf : List D → Option (List Key)
  | [] => some []
  | d :: ds => (keyIf d).bind fun k => (keysIf ds).map fun ks => k :: ks
def rowIf (f : D) (μ : Sto) : Option (List Key) := match asSeq f μ with
  | some ds => if ds.length ≤ 4 then keysIf ds else none
  | none => none
def sp_Client_bind : Spec := fun ds μ Q E => match ds with
  | [.obj j, d, e, f] => anyD d μ ∧ anyD e μ ∧ (tyName f μ).isSome = true ∧ (∀ ds, asSeq f μ = some ds → ds.length ≤ 4 → ∀ x ∈ ds, (tyName x μ).isSome = true ∧ ∀ s, x = .str s → s.length ≤ 1000) ∧
      addS j μ ((strIf isName d).bind fun x => (strIf isName e).bind fun y => (rowIf f μ).map fun r => .bind x y r) Q E
  | _ => False
def N_Client_bind : List Str := ["self", "portal", "name", "values", "is_row", "row", "value"]
def r3_Client_bind : IR := .seq (.ret (.mcl "_added" [(15, sp_Client__added)] (.var 0) (.cons (.tupC (.cons (.con (.str "bind")) (.cons (.var 1) (.cons (.var 2) (.cons (.var 5) .nil))))) (.cons (.andV (.cal "is_name" sp_is_name (.cons (.var 1) .nil)) (.andV (.cal "is_name" sp_is_name (.cons (.var 2) .nil)) (.one (.var 4)))) .nil)))) (.nil)
def r2_Client_bind : IR := .seq (.asg (.gN 5) (.ife (.tV (.var 4)) (.cal "tuple" spTup (.cons (.var 3) .nil)) (.tupC (.nil)))) r3_Client_bind
def r1_Client_bind : IR := .seq (.asg (.gN 4) (.andV (.var 4) (.one (.cal "all" spAll (.cons (.cpr [("value", 6)] (.gN 6) (.itV (.var 3)) (.nop) (.cal "is_value" sp_is_value (.cons (.var 6) .nil))) .nil))))) r2_Client_bind
def c_Client_bind : IR := .seq (.asg (.gN 4) (.andV (.cal "isinstance" spIsi (.cons (.var 3) (.cons (.tupC (.cons (.bty "list") (.cons (.bty "tuple") .nil))) .nil))) (.one (.cmp .LtE (.cal "len" spLen (.cons (.var 3) .nil)) (.glb "MOST_VALUES" (.int 4)))))) r1_Client_bind
end M
end
section
namespace M
open PySem PySem.Spec PyProof.Rows L2
open SX (S S_len S_cat)
theorem isVal_key (d : D) : isVal d = (keyIf d).isSome := by
  unfold isVal keyIf intIn
  cases d with
  | int i =>
    dsimp only
    by_cases h : -2147483648 ≤ i ∧ i ≤ 2147483647
    · rw [if_pos h]
      simp [h.1, h.2]
    · rw [if_neg h]
      simp only [Bool.or_false, Option.isSome_none]
      rw [Bool.and_eq_false_iff, decide_eq_false_iff_not, decide_eq_false_iff_not]
      omega
  | str x =>
    dsimp only
    cases isText x.cps.toList <;> rfl
  | _ => rfl
theorem keyIf_eq {d : D} {k : Key} (h : keyIf d = some k) : d = keyD k := by
  unfold keyIf at h
  split at h
  · split at h
    · cases h; rfl
    · cases h
  · split at h
    · cases h; rfl
    · cases h
  · cases h
theorem keysIf_eq : ∀ {ds : List D} {ks : List Key}, keysIf ds = some ks → ds = ks.map keyD
  | [], ks, h => by cases h; rfl
  | d :: ds, ks, h => by
    unfold keysIf at h
    obtain ⟨k, h1, h2⟩ := Option.bind_eq_some_iff.mp h
    obtain ⟨l, h3, rfl⟩ := Option.map_eq_some_iff.mp h2
    rw [keyIf_eq h1, keysIf_eq h3]
    rfl
theorem keysIf_all : ∀ ds : List D, (ds.map isVal).all id = (keysIf ds).isSome
  | [] => rfl
  | d :: ds => by
    rw [List.map_cons, List.all_cons, keysIf_all ds, isVal_key]
    show _ = ((keyIf d).bind fun k => (keysIf ds).map fun ks => k :: ks).isSome
    generalize keysIf ds = o
    cases keyIf d with
    | none => rfl
    | some k => cases o <;> rfl
theorem seq_ty {f : D} {μ : Sto} {a : String} (h : tyName f μ = some a) : (isB a "list" || isB a "tuple") = (asSeq f μ).isSome := by
  unfold tyName at h
  split at h <;> first | (cases h; rfl) | (cases h; done) | skip
  rename_i j
  unfold asSeq asL
  dsimp only
  split at h
  · rename_i c hc
    cases h
    rw [hc]
    rfl
  · rename_i c hc
    cases h
    rw [hc]
    rfl
  · cases h
theorem len_seq {f : D} {μ : Sto} {ds : List D} {Q : Post} {E : XPost} (h : asSeq f μ = some ds) (q : Q (.int ds.length) μ) : spLen [f] μ Q E := by
  unfold spLen
  split
  · rename_i s e
    cases e
    cases (show none = some ds from h)
  · rename_i d e
    cases e
    rw [h]
    exact q
  · rename_i z
    exact absurd rfl (z f)
theorem tup_seq {f : D} {μ : Sto} {ds : List D} {Q : Post} {E : XPost} (h : asSeq f μ = some ds) (q : Q (.tup ds) μ) : spTup [f] μ Q E := by
  show (match asSeq f μ with | some xs => Q (.tup xs) μ | none => False)
  rw [h]
  exact q
theorem isi_seq {f : D} {μ : Sto} {Q : Post} {E : XPost} (h : (tyName f μ).isSome = true) (q : Q (.bl (asSeq f μ).isSome) μ) : spIsi [f, .tup [.ty "list", .ty "tuple"]] μ Q E := by
  obtain ⟨a, ha⟩ := Option.isSome_iff_exists.mp h
  have e := seq_ty ha
  show (match tyName f μ, tysOf [.ty "list", .ty "tuple"] with | some a, some ns => (ns.all fun n => decide (n ∈ tys)) = true ∧ Q (.bl (ns.any fun n => isB a n)) μ | _, _ => False)
  rw [ha]
  refine ⟨by decide, ?_⟩
  rw [← e] at q
  have e2 : (["list", "tuple"].any fun n => isB a n) = (isB a "list" || isB a "tuple") := by
    simp only [List.any_cons, List.any_nil, Bool.or_false]
  rw [show (["list", "tuple"].any fun n => isB a n) = (isB a "list" || isB a "tuple") from e2]
  exact q
theorem w_Client_bind : ∀ ds μ Q QX, μ.wf → objBs μ.next ds = true → sp_Client_bind ds μ Q QX → ds.length = 4 ∧ wpS c_Client_bind (startE N_Client_bind ds) μ (outs μ.next Q QX) := by
  intro ds μ Q QX hw ho h
  unfold sp_Client_bind at h
  split at h
  · rename_i j d e f
    obtain ⟨ha, hb, hf, hit, h1⟩ := h
    have h2 := h1
    obtain ⟨R, F, hh, hok, _⟩ := h2
    refine ⟨rfl, ?_⟩
    have hsz : sizeLine = 16777216 := sizeLine_eq
    have key : ∀ x, ((strIf isName d).bind fun x => (strIf isName e).bind fun y => (rowIf f μ).map fun r => Cmd.bind x y r) = some x → ∃ r, rowIf f μ = some r ∧ D.tup [.str "bind", d, e, tupK r] = cmdD x := fun x hx => by
      obtain ⟨y, hy, hz⟩ := Option.bind_eq_some_iff.mp hx
      obtain ⟨z, hz2, hz3⟩ := Option.bind_eq_some_iff.mp hz
      obtain ⟨r, hr, e3⟩ := Option.map_eq_some_iff.mp hz3
      subst e3
      obtain ⟨rfl, _⟩ := strIf_eq hy
      obtain ⟨rfl, _⟩ := strIf_eq hz2
      exact ⟨r, hr, rfl⟩
    have tail : ∀ (v6 : Option D) (row : D), (∀ r, rowIf f μ = some r → row = tupK r) → wpS r3_Client_bind [some (.obj j), some d, some e, some f, some (.bl (rowIf f μ).isSome), some row, v6] μ (outs μ.next Q QX) := by
      intro v6 row hrow
      simp [startE, wpS, wpT, wpE, wpA, wpI, wpG, wpGs, wpOpt, outs, wipeE, ePar, r3_Client_bind, mc_added hh]
      refine ⟨by omega, any_spB ha ?_⟩
      have fin := add_ap (d := .tup [.str "bind", d, e, row]) h1 fun x hx => by
        obtain ⟨r, hr, e2⟩ := key x hx
        rw [hrow r hr]
        exact e2
      cases e1 : strIf isName d with
      | none =>
        rw [e1] at fin
        exact fin
      | some x =>
        dsimp only [Option.isSome]
        rw [if_pos rfl]
        refine any_spB (f := isName) hb ?_
        rw [e1] at fin
        cases e2 : strIf isName e with
        | none =>
          rw [e2] at fin
          exact fin
        | some y =>
          dsimp only [Option.isSome]
          rw [if_pos rfl]
          rw [e2] at fin
          cases e3 : rowIf f μ with
          | none =>
            rw [e3] at fin
            exact fin
          | some r =>
            rw [e3] at fin
            exact fin
    simp [startE, wpS, wpT, wpE, wpA, wpI, wpG, wpGs, wpOpt, outs, wipeE, ePar, c_Client_bind, N_Client_bind]
    refine ⟨two_le, isi_seq hf ?_⟩
    cases es : asSeq f μ with
    | none =>
      have er : rowIf f μ = none := by unfold rowIf; rw [es]
      rw [er] at tail
      dsimp only [Option.isSome]
      rw [if_neg (by decide)]
      simp [startE, wpS, wpT, wpE, wpA, wpI, wpG, wpGs, wpOpt, outs, wipeE, ePar, r1_Client_bind, r2_Client_bind, tru_bl]
      exact tail none (.tup []) fun r hr => by cases hr
    | some xs =>
      dsimp only [Option.isSome]
      rw [if_pos rfl]
      refine len_seq es ?_
      rw [c_le]
      by_cases hl : xs.length ≤ 4
      · have er : rowIf f μ = keysIf xs := by
          unfold rowIf
          rw [es]
          dsimp only
          rw [if_pos hl]
        rw [show decide ((xs.length : Int) ≤ 4) = true from decide_eq_true (by omega)]
        simp [startE, wpS, wpT, wpE, wpA, wpI, wpG, wpGs, wpOpt, outs, wipeE, ePar, r1_Client_bind]
        refine itD_of es fun gd hg => ?_
        refine loopC_map (fun x => .bl (isVal x)) hg (fun x hx N hN => ?_) (by omega) ?_
        · obtain ⟨t1, t2⟩ := hit xs es hl x hx
          exact ⟨t1, t2, hN⟩
        · refine ⟨xs.map isVal, ?_, ?_⟩
          · rw [List.map_map]
            rfl
          · rw [keysIf_all, ← er]
            simp [startE, wpS, wpT, wpE, wpA, wpI, wpG, wpGs, wpOpt, outs, wipeE, ePar, r2_Client_bind, tru_bl]
            cases ek : rowIf f μ with
            | none =>
              rw [ek] at tail
              dsimp only [Option.isSome]
              rw [if_neg (by decide)]
              exact tail none (.tup []) fun r hr => by cases hr
            | some r =>
              rw [ek] at tail
              dsimp only [Option.isSome]
              rw [if_pos rfl]
              refine tup_seq es ?_
              refine tail none (.tup xs) fun r2 hr => ?_
              cases hr
              rw [er] at ek
              rw [keysIf_eq ek]
              rfl
      · have er : rowIf f μ = none := by
          unfold rowIf
          rw [es]
          dsimp only
          rw [if_neg hl]
        rw [er] at tail
        rw [show decide ((xs.length : Int) ≤ 4) = false from decide_eq_false (by omega)]
        simp [startE, wpS, wpT, wpE, wpA, wpI, wpG, wpGs, wpOpt, outs, wipeE, ePar, r1_Client_bind, r2_Client_bind, tru_bl]
        exact tail none (.tup []) fun r hr => by cases hr
  · exact h.elim
end M
end
section
namespace M
open PySem PySem.Spec PyProof.Rows L2
open SX (S S_len S_cat)
theorem lg2 {i : Int} (h : i.natAbs < 2 ^ 40) : i.natAbs.log2 < 1920 := by
  by_cases h0 : i.natAbs = 0
  · rw [h0]; decide
  · have := (Nat.log2_lt h0).mpr h
    omega
theorem numT_str (i : Int) : Str.ofString (toString i) = S (numT i) := (SX.S_tl _).symm
theorem w__law_written : ∀ ds μ Q QX, μ.wf → objBs μ.next ds = true → sp__law_written ds μ Q QX → ds.length = 1 ∧ wpS c__law_written (startE N__law_written ds) μ (outs μ.next Q QX) := by
  intro ds μ Q QX hw ho h
  unfold sp__law_written at h
  split at h
  · rename_i xs
    refine ⟨rfl, ?_⟩
    obtain ⟨h1, h2, h3⟩ := h
    have hsz : sizeLine = 16777216 := sizeLine_eq
    simp [startE, wpS, wpT, wpE, wpA, wpI, wpG, wpGs, wpOpt, spLen, spIsi, spInt, spStr, spTup, spLst, spMax, spApp, spFind, spSplit, spJoin, spDget, tn_str, tn_int, tn_bl, tn_non, tn_tup, tn_lst, tn_scr, td_str, td_lst, isB, tys, truD, cmpD, binD, slD, ixD, outs, eAllS, eAllN, eMaxD, eGin, eGinT, eGix, eRse, eCal0, drf, sq_tup, sq_lst, sq_scr, sq_str, sq_int, sq_non, l_lst, l_scr, l_tup, lm_lst, lm_str, lm_int, lm_tup, lm_non, lm_bl, eqOk_str, eqOk_int, eqOk_non, deq_int, deq_str, two_le, isNonD, tysOf, c__law_written, N__law_written, it_tup]
    refine for_gen (fun i δ μ' => ∃ (o : Option D), δ = [some (.tup xs), some (.obj μ.next), o] ∧ μ.Part μ' ∧ μ'.cell μ.next = some (.lst (((xs.take i).map tok).map strD))) ⟨_, rfl, part_mk hw (part_self hw), by rw [Sto.new_same]; rfl⟩ ?_ ?_
    · rintro i x LW hx hLW δ μ' ⟨o, rfl, q1, q2⟩
      have hi : i < xs.length := (List.getElem?_eq_some_iff.mp hx).1
      have hz : (((xs.take i).map tok).map strD).length < sizeLine := by rw [List.length_map, List.length_map, List.length_take]; omega
      have ht : ((xs.take (i + 1)).map tok).map strD = ((xs.take i).map tok).map strD ++ [strD (tok x)] := by
        rw [List.take_add_one, hx]
        simp
      have hmem : x ∈ xs := List.mem_of_getElem? hx
      refine ⟨trivial, ?_⟩
      generalize ((xs.take i).map tok).map strD = L at q2 hz ht
      obtain ⟨hwr, hlen⟩ := h2 x hmem
      have next : ∀ (o : Option D), LW [some (.tup xs), some (.obj μ.next), o] (μ'.put μ.next (.lst (L ++ [strD (tok x)]))) := fun o => hLW _ _ ⟨o, rfl, part_put hw q1 (Nat.le_refl _), by rw [Sto.put_same, ht]⟩
      rcases hwr with ⟨l, rfl⟩ | ⟨n, hn, rfl⟩ | ⟨l, rfl⟩ | ⟨n, hn, rfl⟩
      · simp [startE, wpS, wpT, wpE, wpA, wpI, wpG, wpGs, wpOpt, spLen, spIsi, spInt, spStr, spTup, spLst, spMax, spApp, spFind, spSplit, spJoin, spDget, tn_str, tn_int, tn_bl, tn_non, tn_tup, tn_lst, tn_scr, td_str, td_lst, isB, tys, truD, cmpD, binD, slD, ixD, outs, eAllS, eAllN, eMaxD, eGin, eGinT, eGix, eRse, eCal0, drf, sq_tup, sq_lst, sq_scr, sq_str, sq_int, sq_non, l_lst, l_scr, l_tup, lm_lst, lm_str, lm_int, lm_tup, lm_non, lm_bl, eqOk_str, eqOk_int, eqOk_non, deq_int, deq_str, two_le, isNonD, tysOf, b1__law_written, strD, td_obj q2, q2, hz]
        exact next _
      · simp [startE, wpS, wpT, wpE, wpA, wpI, wpG, wpGs, wpOpt, spLen, spIsi, spInt, spStr, spTup, spLst, spMax, spApp, spFind, spSplit, spJoin, spDget, tn_str, tn_int, tn_bl, tn_non, tn_tup, tn_lst, tn_scr, td_str, td_lst, isB, tys, truD, cmpD, binD, slD, ixD, outs, eAllS, eAllN, eMaxD, eGin, eGinT, eGix, eRse, eCal0, drf, sq_tup, sq_lst, sq_scr, sq_str, sq_int, sq_non, l_lst, l_scr, l_tup, lm_lst, lm_str, lm_int, lm_tup, lm_non, lm_bl, eqOk_str, eqOk_int, eqOk_non, deq_int, deq_str, two_le, isNonD, tysOf, b1__law_written, td_obj q2, q2, hz, lg2 hn]
        have := next (some (.int n))
        rw [show strD (tok (.int n)) = .str (Str.ofString (toString n)) by rw [numT_str]; rfl] at this
        exact this
      · have hl : l.length ≤ 1000 := by
          have : (tok (txtD l)).length = l.length + 2 := by show (39 :: (l ++ [39])).length = _; simp
          omega
        have e : strD (tok (txtD l)) = .str (Str.ofString "'" ++ S l ++ Str.ofString "'") := by
          rw [lit_quote, S_cat, S_cat]
          rfl
        have := next (some (txtD l))
        rw [e] at this
        simp [startE, wpS, wpT, wpE, wpA, wpI, wpG, wpGs, wpOpt, spLen, spIsi, spInt, spStr, spTup, spLst, spMax, spApp, spFind, spSplit, spJoin, spDget, tn_str, tn_int, tn_bl, tn_non, tn_tup, tn_lst, tn_scr, td_str, td_lst, isB, tys, truD, cmpD, binD, slD, ixD, outs, eAllS, eAllN, eMaxD, eGin, eGinT, eGix, eRse, eCal0, drf, sq_tup, sq_lst, sq_scr, sq_str, sq_int, sq_non, l_lst, l_scr, l_tup, lm_lst, lm_str, lm_int, lm_tup, lm_non, lm_bl, eqOk_str, eqOk_int, eqOk_non, deq_int, deq_str, two_le, isNonD, tysOf, b1__law_written, txtD, td_obj q2, q2, hz, atI_zero, atI_one, S_len]
        refine ⟨by rw [show (Str.ofString "'").length = 1 by decide +kernel]; omega, ?_, this⟩
        rw [lit_quote, S_cat, S_len, S_len]
        simp
        omega
      · have hl : (numT n).length ≤ 1000 := by
          have : (tok (parD n)).length = (numT n).length + 1 := rfl
          omega
        have e : strD (tok (parD n)) = .str (Str.ofString "$" ++ Str.ofString (toString n)) := by
          rw [lit_dollar, numT_str, S_cat]
          rfl
        have := next (some (parD n))
        rw [e] at this
        have e1 : ¬ Str.ofString "parameter" = Str.ofString "text" := by decide +kernel
        simp [startE, wpS, wpT, wpE, wpA, wpI, wpG, wpGs, wpOpt, spLen, spIsi, spInt, spStr, spTup, spLst, spMax, spApp, spFind, spSplit, spJoin, spDget, tn_str, tn_int, tn_bl, tn_non, tn_tup, tn_lst, tn_scr, td_str, td_lst, isB, tys, truD, cmpD, binD, slD, ixD, outs, eAllS, eAllN, eMaxD, eGin, eGinT, eGix, eRse, eCal0, drf, sq_tup, sq_lst, sq_scr, sq_str, sq_int, sq_non, l_lst, l_scr, l_tup, lm_lst, lm_str, lm_int, lm_tup, lm_non, lm_bl, eqOk_str, eqOk_int, eqOk_non, deq_int, deq_str, two_le, isNonD, tysOf, b1__law_written, parD, td_obj q2, q2, hz, atI_zero, atI_one, lg2 hn, e1]
        refine ⟨?_, this⟩
        show (Str.ofString "$").length + (Str.ofString (toString n)).length ≤ sizeLine
        rw [lit_dollar, numT_str, S_len, S_len]
        simp
        omega
    · rintro δ μ' ⟨o, rfl, q1, q2⟩
      refine ⟨trivial, ?_⟩
      rw [List.take_length] at q2
      have hq : finP μ.next Q (strD (written xs)) μ' := fin_part q1 rfl h3
      simp [q2, spJoin, tyD]
      refine ⟨(xs.map tok).map S, ?_, ?_, ?_⟩
      · rw [sq_obj q2]
        congr 1
        rw [List.map_map, List.map_map, List.map_map]
        rfl
      · have : ∀ ys : List D, (∀ y ∈ ys, (tok y).length ≤ 1000) → (((ys.map tok).map S).map (·.length)).sum ≤ ys.length * 1000 := by
          intro ys
          induction ys with
          | nil => intro _; simp
          | cons y ys ih =>
            intro hy
            have a1 := hy y (by simp)
            have a2 := ih fun z hz => hy z (by simp [hz])
            rw [List.map_cons, List.map_cons, List.map_cons, List.sum_cons, List.length_cons, S_len]
            omega
        have a := this xs fun y hy => (h2 y hy).2
        rw [show (Str.ofString " ").length = 1 by decide +kernel, List.length_map, List.length_map]
        have : (((xs.map tok).map S).map fun x => x.length).sum ≤ xs.length * 1000 := a
        omega
      · rw [lit_space, SX.join_S]
        exact hq
  · exact h.elim
end M
end
section
namespace M
open PySem PySem.Spec PyProof.Rows L2
open SX (S S_len S_cat)
theorem maxI_spec {z : Int} {ns : List Int} (h : ns ≠ []) : maxI z ns ∈ ns ∧ ∀ y ∈ ns, y ≤ maxI z ns := by
  cases ns with
  | nil => exact absurd rfl h
  | cons n ns => exact foldl_max ns n
def contig (ns : List Int) : Prop := ∀ m : Int, 1 ≤ m → m ≤ maxI 0 ns → m ∈ ns
theorem contig_snoc {ns : List Int} {m : Int} (h : contig ns) (h1 : 1 ≤ m) (h2 : m ≤ maxI 0 ns + 1) : contig (ns ++ [m]) := by
  intro j hj1 hj2
  obtain ⟨hx, _⟩ := maxI_spec (z := 0) (ns := ns ++ [m]) (by simp)
  have hcase : j ≤ maxI 0 ns ∨ j = m := by
    rcases List.mem_append.mp hx with z | z
    · have hne : ns ≠ [] := fun e => by rw [e] at z; cases z
      have := (maxI_spec (z := 0) hne).2 _ z
      omega
    · rw [List.mem_singleton] at z
      omega
  rcases hcase with hc | hc
  · exact List.mem_append_left _ (h j hj1 hc)
  · rw [hc]
    simp
theorem parNs_app (xs ys : List D) : parNs (xs ++ ys) = parNs xs ++ parNs ys := List.filterMap_append
theorem parNs_strs (w n : List Nat) (ts : List D) : parNs (strD w :: strD n :: ts) = parNs ts := rfl
theorem parN_parD (m : Int) : parN (parD m) = some m := by
  unfold parD parN
  exact if_pos rfl
theorem maxI_zero {ns : List Int} (h : ∀ n ∈ ns, 0 ≤ n) : maxI 0 (0 :: ns) = maxI 0 ns := by
  symm
  refine maxI_of (z := 0) (.inr ?_)
  cases ns with
  | nil => exact ⟨by simp [maxI], fun y hy => by simp at hy; rw [hy]; exact Int.le_refl 0⟩
  | cons n r =>
    obtain ⟨a, b⟩ := maxI_spec (z := 0) (ns := n :: r) (by simp)
    refine ⟨List.mem_cons_of_mem _ a, fun y hy => ?_⟩
    rcases List.mem_cons.mp hy with rfl | z
    · exact h _ a
    · exact b y z
theorem termOk_mono {u v : Int} {d : D} (h : termOk u d) (hv : u ≤ v) : termOk v d := by
  rcases h with ⟨m, h1, h2, h3, e⟩ | h | h
  · exact .inl ⟨m, h1, by omega, h3, e⟩
  · exact .inr (.inl h)
  · exact .inr (.inr h)
theorem termOk_par {u : Int} {d : D} {n : Int} (h : termOk u d) (e : parN d = some n) : 1 ≤ n ∧ n ≤ u + 1 ∧ n ≤ 4 := by
  rcases h with ⟨m, h1, h2, h3, rfl⟩ | ⟨l, _, rfl⟩ | ⟨i, _, _, rfl⟩
  · rw [parN_parD] at e
    cases e
    exact ⟨h1, h2, h3⟩
  · cases e
  · cases e
theorem termOk_objB {u : Int} {d : D} (n : Nat) (h : termOk u d) : objB n d = true := by
  rcases h with ⟨m, _, _, _, rfl⟩ | ⟨l, _, rfl⟩ | ⟨i, _, _, rfl⟩ <;> rfl
theorem termOk_item {u : Int} {d : D} (h : termOk u d) : okItemT d = true := by
  rcases h with ⟨m, _, _, _, rfl⟩ | ⟨l, _, rfl⟩ | ⟨i, _, _, rfl⟩
  · rfl
  · show decide (Str.ofString "text" ≠ Str.ofString "parameter") = true
    decide +kernel
  · rfl
theorem parNs_range {ts : List D} (h : ∀ t ∈ ts, termOk 3 t) : ∀ n ∈ parNs ts, 1 ≤ n ∧ n ≤ 4 := fun n hn => by
  obtain ⟨d, hd, e⟩ := List.mem_filterMap.mp hn
  have := termOk_par (h d hd) e
  omega
theorem objBs_allW (n : Nat) : ∀ {xs : List D}, (∀ x ∈ xs, objB n x = true) → objBs n xs = true
  | [], _ => rfl
  | x :: xs, h => by
    show (objB n x && objBs n xs) = true
    rw [h x (by simp), objBs_allW n fun y hy => h y (by simp [hy])]
    rfl
theorem stmtOk_objB {ds : List D} (n : Nat) (h : stmtOk ds) : objBs n ds = true := by
  rcases h with ⟨w, _, _, rfl⟩ | ⟨w, m, ts, _, _, _, _, h, _, rfl⟩
  · rfl
  · refine objBs_allW n fun x hx => ?_
    rcases List.mem_cons.mp hx with rfl | hx
    · rfl
    · rcases List.mem_cons.mp hx with rfl | hx
      · rfl
      · exact termOk_objB n (h x hx)
def wordsD : List D := [D.str "create", D.str "put", D.str "put", D.str "scan", D.str "begin", D.str "commit", D.str "put", D.str "get", D.str "delete", D.str "total", D.str "scan", D.str "save", D.str "undo", D.str "rollback", D.str "drop", D.str "create", D.str "put", D.str "begin", D.str "save", D.str "undo", D.str "scan"]
def dictD (x : Int) : List (Key × D) := [(.inr "put", .int 2), (.inr "get", .int 1), (.inr "delete", .int 1), (.inr "scan", .int x)]
def oneB (d : D) : Bool := [D.str "begin", D.str "commit", D.str "rollback"].any fun y => deq y d
def wordKind (w : List Nat) : Prop := (oneB (strD w) = true ∧ formOk w 0 = true) ∨ (oneB (strD w) = false ∧ ((∃ k : Nat, k ≤ 2 ∧ formOk w (k + 1) = true ∧ ∀ x, (valD (dictD x) (.inr (S w))).getD (.int 0) = .int k) ∨ (formOk w 1 = true ∧ formOk w 3 = true ∧ ∀ x, (valD (dictD x) (.inr (S w))).getD (.int 0) = .int x)))
theorem words_ok : ∀ d ∈ wordsD, ∃ w, d = strD w ∧ isName w = true ∧ wordKind w := by
  have mk : ∀ x : Str, isName x.cps.toList = true → wordKind x.cps.toList → ∃ w, D.str x = strD w ∧ isName w = true ∧ wordKind w := fun x h k => ⟨x.cps.toList, by rw [strD, SX.S_tl], h, k⟩
  have one : ∀ x : Str, isName x.cps.toList = true → oneB (strD x.cps.toList) = true → formOk x.cps.toList 0 = true → ∃ w, D.str x = strD w ∧ isName w = true ∧ wordKind w := fun x h a b => mk x h (.inl ⟨a, b⟩)
  have fix : ∀ (x : Str) (k : Nat), isName x.cps.toList = true → oneB (strD x.cps.toList) = false → k ≤ 2 → formOk x.cps.toList (k + 1) = true → (∀ y, (valD (dictD y) (.inr (S x.cps.toList))).getD (.int 0) = .int k) → ∃ w, D.str x = strD w ∧ isName w = true ∧ wordKind w := fun x k h a b c d => mk x h (.inr ⟨a, .inl ⟨k, b, c, d⟩⟩)
  have var : ∀ (x : Str), isName x.cps.toList = true → oneB (strD x.cps.toList) = false → formOk x.cps.toList 1 = true → formOk x.cps.toList 3 = true → (∀ y, (valD (dictD y) (.inr (S x.cps.toList))).getD (.int 0) = .int y) → ∃ w, D.str x = strD w ∧ isName w = true ∧ wordKind w := fun x h a b c d => mk x h (.inr ⟨a, .inr ⟨b, c, d⟩⟩)
  intro d hd
  simp only [wordsD, List.mem_cons, List.not_mem_nil, or_false] at hd
  have create := fix "create" 0 (by decide +kernel) (by decide +kernel) (by omega) (by decide +kernel) (fun _ => by kernel_rfl)
  have put := fix "put" 2 (by decide +kernel) (by decide +kernel) (by omega) (by decide +kernel) (fun _ => by kernel_rfl)
  have scan := var "scan" (by decide +kernel) (by decide +kernel) (by decide +kernel) (by decide +kernel) (fun _ => by kernel_rfl)
  have beg := one "begin" (by decide +kernel) (by decide +kernel) (by decide +kernel)
  have com := one "commit" (by decide +kernel) (by decide +kernel) (by decide +kernel)
  have get := fix "get" 1 (by decide +kernel) (by decide +kernel) (by omega) (by decide +kernel) (fun _ => by kernel_rfl)
  have del := fix "delete" 1 (by decide +kernel) (by decide +kernel) (by omega) (by decide +kernel) (fun _ => by kernel_rfl)
  have tot := fix "total" 0 (by decide +kernel) (by decide +kernel) (by omega) (by decide +kernel) (fun _ => by kernel_rfl)
  have sav := fix "save" 0 (by decide +kernel) (by decide +kernel) (by omega) (by decide +kernel) (fun _ => by kernel_rfl)
  have und := fix "undo" 0 (by decide +kernel) (by decide +kernel) (by omega) (by decide +kernel) (fun _ => by kernel_rfl)
  have rol := one "rollback" (by decide +kernel) (by decide +kernel) (by decide +kernel)
  have dro := fix "drop" 0 (by decide +kernel) (by decide +kernel) (by omega) (by decide +kernel) (fun _ => by kernel_rfl)
  rcases hd with rfl | rfl | rfl | rfl | rfl | rfl | rfl | rfl | rfl | rfl | rfl | rfl | rfl | rfl | rfl | rfl | rfl | rfl | rfl | rfl | rfl <;> assumption
theorem w__law_statement : ∀ ds μ Q QX, μ.wf → objBs μ.next ds = true → sp__law_statement ds μ Q QX → ds.length = 2 ∧ wpS c__law_statement (startE N__law_statement ds) μ (outs μ.next Q QX) := by
  intro ds μ Q QX hw ho h
  unfold sp__law_statement at h
  split at h
  · rename_i row names
    refine ⟨rfl, ?_⟩
    obtain ⟨ns, rfl, h2, h3, h4, h5, h6, h7⟩ := h
    have hq : ∀ {μ' : Sto} ds, μ.Part μ' → stmtOk ds → finP μ.next Q (.tup ds) μ' := fun ds hp hd => fin_part hp (stmtOk_objB _ hd) (h7 ds hd)
    obtain ⟨a0, a1, a2, a3, a4, a5, rfl⟩ : ∃ a0 a1 a2 a3 a4 a5, ns = [a0, a1, a2, a3, a4, a5] := by
      match ns, h2 with
      | [a0, a1, a2, a3, a4, a5], _ => exact ⟨_, _, _, _, _, _, rfl⟩
    have b : ∀ x ∈ [a0, a1, a2, a3, a4, a5], 0 ≤ x ∧ x < 840 := h3
    simp only [List.mem_cons, List.not_mem_nil, or_false, forall_eq_or_imp, forall_eq] at b
    obtain ⟨b0, b1, b2, b3, b4, b5⟩ := b
    simp [startE, wpS, wpT, wpE, wpA, wpI, wpG, wpGs, wpOpt, spLen, spIsi, spInt, spStr, spTup, spLst, spMax, spApp, spFind, spSplit, spJoin, spDget, tn_str, tn_int, tn_bl, tn_non, tn_tup, tn_lst, tn_scr, td_str, td_lst, isB, tys, truD, cmpD, binD, slD, ixD, outs, eAllS, eAllN, eMaxD, eGin, eGinT, eGix, eRse, eCal0, drf, sq_tup, sq_lst, sq_scr, sq_str, sq_int, sq_non, l_lst, l_scr, l_tup, lm_lst, lm_str, lm_int, lm_tup, lm_non, lm_bl, eqOk_str, eqOk_int, eqOk_non, deq_int, deq_str, two_le, isNonD, tysOf, c__law_statement, r1__law_statement, r2__law_statement, N__law_statement, atI_zero]
    refine ⟨by rw [sizeLine_eq]; omega, by rw [sizeLine_eq]; omega, by rw [sizeLine_eq]; omega, ?_⟩
    obtain ⟨dw, e, w, rfl, hwn, hk⟩ := atI_all words_ok (i := a0.fmod 21) (fmod_lt (by omega))
    have e2 := e
    unfold wordsD at e2
    rw [e2]
    clear e2
    dsimp only
    generalize hW : (D.lst [D.str (Str.ofString "create"), D.str (Str.ofString "put"), D.str (Str.ofString "put"), D.str (Str.ofString "scan"), D.str (Str.ofString "begin"), D.str (Str.ofString "commit"), D.str (Str.ofString "put"), D.str (Str.ofString "get"), D.str (Str.ofString "delete"), D.str (Str.ofString "total"), D.str (Str.ofString "scan"), D.str (Str.ofString "save"), D.str (Str.ofString "undo"), D.str (Str.ofString "rollback"), D.str (Str.ofString "drop"), D.str (Str.ofString "create"), D.str (Str.ofString "put"), D.str (Str.ofString "begin"), D.str (Str.ofString "save"), D.str (Str.ofString "undo"), D.str (Str.ofString "scan")]) = WD
    have hone : (Str.ofString "begin" = S w ∨ Str.ofString "commit" = S w ∨ Str.ofString "rollback" = S w) ↔ oneB (strD w) = true := by simp [oneB, strD, deq_str]
    obtain ⟨dn, en, n, hnn, rfl⟩ := atI_all h6 (i := a1.fmod names.length) (fmod_lt (by have := List.length_pos_iff.mpr h4; omega))
    simp [startE, wpS, wpT, wpE, wpA, wpI, wpG, wpGs, wpOpt, spLen, spIsi, spInt, spStr, spTup, spLst, spMax, spApp, spFind, spSplit, spJoin, spDget, tn_str, tn_int, tn_bl, tn_non, tn_tup, tn_lst, tn_scr, td_str, td_lst, isB, tys, truD, cmpD, binD, slD, ixD, outs, eAllS, eAllN, eMaxD, eGin, eGinT, eGix, eRse, eCal0, drf, sq_tup, sq_lst, sq_scr, sq_str, sq_int, sq_non, l_lst, l_scr, l_tup, lm_lst, lm_str, lm_int, lm_tup, lm_non, lm_bl, eqOk_str, eqOk_int, eqOk_non, deq_int, deq_str, two_le, isNonD, tysOf, r3__law_statement, strD]
    refine ⟨by rw [sizeLine_eq]; omega, rfl, ?_⟩
    rcases hk with ⟨k1, k2⟩ | ⟨k1, hk⟩
    · rw [if_pos (hone.mpr k1)]
      exact ⟨by rw [sizeLine_eq]; omega, hq _ (part_self hw) (.inl ⟨w, hwn, k2, rfl⟩)⟩
    · rw [if_neg (fun z => by rw [hone.mp z] at k1; cases k1)]
      -- from the parts on
      have rest : ∀ (cnt : Int) (μ' : Sto), (cnt = 0 ∧ formOk w 1 = true ∨ cnt = 1 ∧ formOk w 2 = true ∨ cnt = 2 ∧ formOk w 3 = true) → μ.Part μ' → μ'.cell μ.next = some (.lst [strD w, strD n]) →
          wpS r6__law_statement [some (.lst [.int a0, .int a1, .int a2, .int a3, .int a4, .int a5]), some (.lst names), some WD, some (.str (S w)), some (.obj μ.next), some (.int cnt), none] μ' { nx := fun x μ' => finP μ.next Q D.non μ', rt := finP μ.next Q, bk := fun x x_1 => False, ct := fun x x_1 => False, xc := fun x x_1 μ' => finX μ.next QX x μ' } := by
        intro cnt μ' hc q1 q2
        simp [startE, wpS, wpT, wpE, wpA, wpI, wpG, wpGs, wpOpt, spLen, spIsi, spInt, spStr, spTup, spLst, spMax, spApp, spFind, spSplit, spJoin, spDget, tn_str, tn_int, tn_bl, tn_non, tn_tup, tn_lst, tn_scr, td_str, td_lst, isB, tys, truD, cmpD, binD, slD, ixD, outs, eAllS, eAllN, eMaxD, eGin, eGinT, eGix, eRse, eCal0, drf, sq_tup, sq_lst, sq_scr, sq_str, sq_int, sq_non, l_lst, l_scr, l_tup, lm_lst, lm_str, lm_int, lm_tup, lm_non, lm_bl, eqOk_str, eqOk_int, eqOk_non, deq_int, deq_str, two_le, isNonD, tysOf, r6__law_statement, show atI [D.int a0, D.int a1, D.int a2, D.int a3, D.int a4, D.int a5] 5 = some (.int a5) from rfl, sq_obj q2, atI_one]
        have loop : wpS r7__law_statement [some (.lst [.int a0, .int a1, .int a2, .int a3, .int a4, .int a5]), some (.lst names), some WD, some (.str (S w)), some (.obj μ.next), some (.int cnt), none] μ' { nx := fun x μ' => finP μ.next Q D.non μ', rt := finP μ.next Q, bk := fun x x_1 => False, ct := fun x x_1 => False, xc := fun x x_1 μ' => finX μ.next QX x μ' } := by
          simp [startE, wpS, wpT, wpE, wpA, wpI, wpG, wpGs, wpOpt, spLen, spIsi, spInt, spStr, spTup, spLst, spMax, spApp, spFind, spSplit, spJoin, spDget, tn_str, tn_int, tn_bl, tn_non, tn_tup, tn_lst, tn_scr, td_str, td_lst, isB, tys, truD, cmpD, binD, slD, ixD, outs, eAllS, eAllN, eMaxD, eGin, eGinT, eGix, eRse, eCal0, drf, sq_tup, sq_lst, sq_scr, sq_str, sq_int, sq_non, l_lst, l_scr, l_tup, lm_lst, lm_str, lm_int, lm_tup, lm_non, lm_bl, eqOk_str, eqOk_int, eqOk_non, deq_int, deq_str, two_le, isNonD, tysOf, r7__law_statement, r8__law_statement]
          refine ⟨by omega, by omega, ?_⟩
          refine for_gen (fun i δ μ2 => ∃ (o : Option D) (ts : List D), δ = [some (.lst [.int a0, .int a1, .int a2, .int a3, .int a4, .int a5]), some (.lst names), some WD, some (.str (S w)), some (.obj μ.next), some (.int cnt), o] ∧ μ.Part μ2 ∧ μ2.cell μ.next = some (.lst (strD w :: strD n :: ts)) ∧ ts.length = i ∧ (∀ t ∈ ts, termOk 3 t) ∧ contig (parNs ts) ∧ (∀ t ∈ ts, ∀ p, parN t = some p → p ≤ 3))
            ⟨none, [], rfl, q1, q2, rfl, (fun _ z => by cases z), (fun m h1 h2 => by simp [parNs, maxI] at h2; omega), fun _ z => by cases z⟩ ?_ ?_
          · rintro i x LW hx hLW δ μ2 ⟨o, ts, rfl, p1, p2, p3, p4, p5, p6⟩
            obtain ⟨hi, rfl⟩ := intsD_at hx
            have hi2 : i = 0 ∨ i = 1 := by omega
            refine ⟨trivial, ?_⟩
            have hr := parNs_range p4
            have hmx : 0 ≤ maxI 0 (parNs ts) ∧ maxI 0 (parNs ts) ≤ 3 := maxI_in 0 3 (by omega) fun n hn => by
              obtain ⟨d, hd, e⟩ := List.mem_filterMap.mp hn
              have := hr n hn
              exact ⟨by omega, p6 d hd n e⟩
            have hmx2 : i = 0 → maxI 0 (parNs ts) = 0 := fun e => by
              have : ts = [] := List.length_eq_zero_iff.mp (by omega)
              rw [this]
              rfl
            have hmx3 : maxI 0 (parNs ts) ≤ 2 := by
              -- one term only
              rcases hi2 with e | e
              · rw [hmx2 e]; omega
              · match ts, p3.trans e with
                | [t], _ =>
                  cases hp : parN t with
                  | none => simp [parNs, hp, maxI]
                  | some p =>
                    have c := p5 p
                    have p1' : parNs [t] = [p] := by simp [parNs, hp]
                    rw [p1'] at c ⊢
                    have hmax : maxI 0 [p] = p := rfl
                    rw [hmax] at c ⊢
                    -- contiguity: 1 is there
                    have one := p5 1 (by omega)
                    rw [p1', hmax] at one
                    have hp1 := hr p (by rw [p1']; simp)
                    have := one (by omega)
                    simp at this
                    omega
            have hz : (strD w :: strD n :: ts).length < sizeLine := by rw [List.length_cons, List.length_cons, sizeLine_eq]; omega
            have hz2 : (strD w :: strD n :: ts).length + 1 < sizeLine := by rw [List.length_cons, List.length_cons, sizeLine_eq]; omega
            have hall : (strD w :: strD n :: ts).all okItemT = true := by
              rw [List.all_cons, List.all_cons, Bool.and_eq_true, Bool.and_eq_true]
              exact ⟨rfl, rfl, List.all_eq_true.mpr fun t ht => termOk_item (p4 t ht)⟩
            have hmz : maxI 0 (0 :: parNs (strD w :: strD n :: ts)) = maxI 0 (parNs ts) := by
              rw [parNs_strs, maxI_zero fun n hn => by have := hr n hn; omega]
            have next : ∀ (o : Option D) d, termOk (maxI 0 (parNs ts)) d → LW [some (.lst [.int a0, .int a1, .int a2, .int a3, .int a4, .int a5]), some (.lst names), some WD, some (.str (S w)), some (.obj μ.next), some (.int cnt), o] (μ2.put μ.next (.lst ((strD w :: strD n :: ts) ++ [d]))) := fun o d hd => by
              refine hLW _ _ ⟨o, ts ++ [d], rfl, part_put hw p1 (Nat.le_refl _), by rw [Sto.put_same]; rfl, by simp [p3], fun t ht => ?_, ?_, fun t ht p hp => ?_⟩
              · rcases List.mem_append.mp ht with z | z
                · exact p4 t z
                · rw [List.mem_singleton] at z
                  rw [z]
                  exact termOk_mono hd (by omega)
              · rw [parNs_app]
                cases hp : parN d with
                | none =>
                  have : parNs [d] = [] := by simp [parNs, hp]
                  rw [this, List.append_nil]
                  exact p5
                | some p =>
                  have : parNs [d] = [p] := by simp [parNs, hp]
                  rw [this]
                  obtain ⟨r1, r2, r3⟩ := termOk_par hd hp
                  exact contig_snoc p5 r1 r2
              · rcases List.mem_append.mp ht with z | z
                · exact p6 t z p hp
                · rw [List.mem_singleton] at z
                  subst z
                  have := termOk_par hd hp
                  omega
            generalize hT : strD w :: strD n :: ts = L at p2 hz hz2 hall hmz next
            rcases hi2 with e | e
            · subst e
              simp [startE, wpS, wpT, wpE, wpA, wpI, wpG, wpGs, wpOpt, spLen, spIsi, spInt, spStr, spTup, spLst, spMax, spApp, spFind, spSplit, spJoin, spDget, tn_str, tn_int, tn_bl, tn_non, tn_tup, tn_lst, tn_scr, td_str, td_lst, isB, tys, truD, cmpD, binD, slD, ixD, outs, eAllS, eAllN, eMaxD, eGin, eGinT, eGix, eRse, eCal0, drf, sq_tup, sq_lst, sq_scr, sq_str, sq_int, sq_non, l_lst, l_scr, l_tup, lm_lst, lm_str, lm_int, lm_tup, lm_non, lm_bl, eqOk_str, eqOk_int, eqOk_non, deq_int, deq_str, two_le, isNonD, tysOf, b1__law_statement, td_obj p2, p2, hz, sp__law_used, sq_obj p2, hz2, sp__law_term, hmz, show atI [D.int a0, D.int a1, D.int a2, D.int a3, D.int a4, D.int a5] 3 = some (.int a3) from rfl, show atI [D.int a0, D.int a1, D.int a2, D.int a3, D.int a4, D.int a5] 5 = some (.int a5) from rfl]
              exact ⟨cmul_l (by omega) (by omega), cmul_l (by omega) (by omega), fun x hx => List.all_eq_true.mp hall x hx, hmx.1, by omega, fun d hd => next _ d hd⟩
            · subst e
              simp [startE, wpS, wpT, wpE, wpA, wpI, wpG, wpGs, wpOpt, spLen, spIsi, spInt, spStr, spTup, spLst, spMax, spApp, spFind, spSplit, spJoin, spDget, tn_str, tn_int, tn_bl, tn_non, tn_tup, tn_lst, tn_scr, td_str, td_lst, isB, tys, truD, cmpD, binD, slD, ixD, outs, eAllS, eAllN, eMaxD, eGin, eGinT, eGix, eRse, eCal0, drf, sq_tup, sq_lst, sq_scr, sq_str, sq_int, sq_non, l_lst, l_scr, l_tup, lm_lst, lm_str, lm_int, lm_tup, lm_non, lm_bl, eqOk_str, eqOk_int, eqOk_non, deq_int, deq_str, two_le, isNonD, tysOf, b1__law_statement, td_obj p2, p2, hz, sp__law_used, sq_obj p2, hz2, sp__law_term, hmz, show atI [D.int a0, D.int a1, D.int a2, D.int a3, D.int a4, D.int a5] 4 = some (.int a4) from rfl, show atI [D.int a0, D.int a1, D.int a2, D.int a3, D.int a4, D.int a5] 2 = some (.int a2) from rfl]
              exact ⟨cmul_l (by omega) (by omega), cmul_l (by omega) (by omega), fun x hx => List.all_eq_true.mp hall x hx, hmx.1, by omega, fun d hd => next _ d hd⟩
          · rintro δ μ2 ⟨o, ts, rfl, p1, p2, p3, p4, p5, p6⟩
            refine ⟨trivial, ?_⟩
            rw [intsD_len] at p3
            simp [sq_obj p2]
            refine hq _ p1 (.inr ⟨w, n, ts, hwn, hnn, by omega, ?_, p4, p5, rfl⟩)
            rcases hc with ⟨rfl, f⟩ | ⟨rfl, f⟩ | ⟨rfl, f⟩
            · rw [show ts.length + 1 = 1 by omega]; exact f
            · rw [show ts.length + 1 = 2 by omega]; exact f
            · rw [show ts.length + 1 = 3 by omega]; exact f
        split
        · rename_i h2
          split
          · refine ⟨by rw [sizeLine_eq]; omega, hq [strD w, strD n, parD 2, parD 1] q1 (.inr ⟨w, n, [parD 2, parD 1], hwn, hnn, by simp, ?_, ?_, ?_, rfl⟩)⟩
            · rcases hc with ⟨z, _⟩ | ⟨z, _⟩ | ⟨_, f⟩
              · omega
              · omega
              · exact f
            · intro t ht
              simp at ht
              rcases ht with rfl | rfl
              · exact .inl ⟨2, by omega, by omega, by omega, rfl⟩
              · exact .inl ⟨1, by omega, by omega, by omega, rfl⟩
            · have : parNs [parD 2, parD 1] = [2, 1] := by simp [parNs, parN_parD]
              rw [this]
              intro m h1 h2
              have : maxI 0 [2, 1] = 2 := by decide
              rw [this] at h2
              simp
              omega
          · exact loop
        · exact loop
      simp [startE, wpS, wpT, wpE, wpA, wpI, wpG, wpGs, wpOpt, spLen, spIsi, spInt, spStr, spTup, spLst, spMax, spApp, spFind, spSplit, spJoin, spDget, tn_str, tn_int, tn_bl, tn_non, tn_tup, tn_lst, tn_scr, td_str, td_lst, isB, tys, truD, cmpD, binD, slD, ixD, outs, eAllS, eAllN, eMaxD, eGin, eGinT, eGix, eRse, eCal0, drf, sq_tup, sq_lst, sq_scr, sq_str, sq_int, sq_non, l_lst, l_scr, l_tup, lm_lst, lm_str, lm_int, lm_tup, lm_non, lm_bl, eqOk_str, eqOk_int, eqOk_non, deq_int, deq_str, two_le, isNonD, tysOf, r4__law_statement, r5__law_statement, strD, atI_zero, atI_one, en, show atI [D.int a0, D.int a1, D.int a2, D.int a3, D.int a4, D.int a5] 2 = some (.int a2) from rfl]
      refine ⟨h4, cmul_l (by omega) (by omega), ?_⟩
      unfold eDsp
      have m2 := fmod_lt (a := a2) (b := 2) (by omega)
      have ez : (([Str.ofString "put", Str.ofString "get", Str.ofString "delete", Str.ofString "scan"] : List Str).map Sum.inr).zip [D.int 2, D.int 1, D.int 1, D.int (2 * a2.fmod 2)] = dictD (2 * a2.fmod 2) := rfl
      rw [ez]
      have c1 : ((μ.new (Cell.lst [D.str (S w), D.str (S n)])).new (.dct (dictD (2 * a2.fmod 2)))).cell (μ.new (Cell.lst [D.str (S w), D.str (S n)])).next = some (.dct (dictD (2 * a2.fmod 2))) := Sto.new_same
      have c2 : ((μ.new (Cell.lst [D.str (S w), D.str (S n)])).new (.dct (dictD (2 * a2.fmod 2)))).cell μ.next = some (.lst [strD w, strD n]) := by
        rw [Sto.new_ne (show μ.next ≠ μ.next + 1 by omega), Sto.new_same]
        rfl
      have pp : μ.Part ((μ.new (Cell.lst [D.str (S w), D.str (S n)])).new (.dct (dictD (2 * a2.fmod 2)))) := part_mk hw (part_mk hw (part_self hw))
      generalize ((μ.new (Cell.lst [D.str (S w), D.str (S n)])).new (.dct (dictD (2 * a2.fmod 2)))) = μ' at c1 c2 pp ⊢
      have ek : asK (.obj (μ.new (Cell.lst [D.str (S w), D.str (S n)])).next) μ' = some (dictD (2 * a2.fmod 2)) := by simp only [asK, c1]
      refine ⟨by rw [td_dct c1]; rfl, ?_⟩
      rw [ek]
      dsimp only [keyOf]
      rcases hk with ⟨k, hk1, hk2, hk3⟩ | ⟨f1, f2, hk3⟩
      · rw [hk3]
        refine rest k μ' ?_ pp c2
        rcases (show k = 0 ∨ k = 1 ∨ k = 2 by omega) with rfl | rfl | rfl
        · exact .inl ⟨rfl, hk2⟩
        · exact .inr (.inl ⟨rfl, hk2⟩)
        · exact .inr (.inr ⟨rfl, hk2⟩)
      · rw [hk3]
        refine rest _ μ' ?_ pp c2
        rcases (show a2.fmod 2 = 0 ∨ a2.fmod 2 = 1 by omega) with e | e
        · exact .inl ⟨by rw [e]; rfl, f1⟩
        · exact .inr (.inr ⟨by rw [e]; rfl, f2⟩)
  · exact h.elim
end M
end
section
namespace M
open PySem PySem.Spec PyProof.Rows L2
open SX (S S_len S_cat)
def tokOk (t : List Nat) : Prop := t ≠ [] ∧ ∀ rest : List Nat, (rest = [] ∨ ∃ r, rest = 32 :: r) → fp (t ++ rest) = t
theorem prs_join : ∀ (ts : List (List Nat)) (t : List Nat) (acc : List (List Nat)) (n : Nat), (∀ u ∈ t :: ts, tokOk u) → ts.length + 2 ≤ n → prs n acc (32 :: TL.joinL [32] (t :: ts)) = some (acc ++ t :: ts)
  | [], t, acc, n, h, hn => by
    obtain ⟨n, rfl⟩ : ∃ m, n = m + 2 := ⟨n - 2, by omega⟩
    obtain ⟨h1, h2⟩ := h t (by simp)
    have e : fp t = t := by have := h2 [] (.inl rfl); rwa [List.append_nil] at this
    show prs (n + 2) acc (32 :: t) = _
    show (if (32 : Nat) ≠ 32 ∨ fp t = [] then none else prs (n + 1) (acc ++ [fp t]) (t.drop (fp t).length)) = _
    rw [if_neg (by rw [e]; rintro (z | z); exact z rfl; exact h1 z), e, List.drop_length]
    rfl
  | u :: ts, t, acc, n, h, hn => by
    obtain ⟨n, rfl⟩ : ∃ m, n = m + 1 := ⟨n - 1, by rw [List.length_cons] at hn; omega⟩
    obtain ⟨h1, h2⟩ := h t (by simp)
    have e : fp (t ++ (32 :: TL.joinL [32] (u :: ts))) = t := h2 _ (.inr ⟨_, rfl⟩)
    have ej : TL.joinL [32] (t :: u :: ts) = t ++ (32 :: TL.joinL [32] (u :: ts)) := rfl
    rw [ej]
    show (if (32 : Nat) ≠ 32 ∨ fp (t ++ (32 :: TL.joinL [32] (u :: ts))) = [] then none else prs n (acc ++ [fp (t ++ (32 :: TL.joinL [32] (u :: ts)))]) ((t ++ (32 :: TL.joinL [32] (u :: ts))).drop (fp (t ++ (32 :: TL.joinL [32] (u :: ts)))).length)) = _
    rw [if_neg (by rw [e]; rintro (z | z); exact z rfl; exact h1 z), e, List.drop_left, prs_join ts u (acc ++ [t]) n (fun v hv => h v (by simp [List.mem_cons.mp hv])) (by rw [List.length_cons] at hn; omega)]
    simp
theorem join_len : ∀ ts : List (List Nat), (∀ t ∈ ts, t ≠ []) → ts.length ≤ (TL.joinL [32] ts).length
  | [], _ => Nat.le_refl _
  | [t], h => by
    have := List.length_pos_iff.mpr (h t (by simp))
    show 1 ≤ t.length
    omega
  | t :: u :: ts, h => by
    have := join_len (u :: ts) fun v hv => h v (by simp [List.mem_cons.mp hv])
    show (u :: ts).length + 1 ≤ (t ++ (32 :: TL.joinL [32] (u :: ts))).length
    rw [List.length_append, List.length_cons (a := 32)]
    have := List.length_pos_iff.mpr (h t (by simp))
    omega
theorem partsOf_join {t : List Nat} {ts : List (List Nat)} (h : ∀ u ∈ t :: ts, tokOk u) : partsOf (TL.joinL [32] (t :: ts)) = some (t :: ts) := by
  unfold partsOf
  have := join_len (t :: ts) fun u hu => (h u hu).1
  rw [List.length_cons] at this
  exact prs_join ts t [] _ h (by omega)
theorem takeW {p : Nat → Bool} {t rest : List Nat} (h : ∀ c ∈ t, p c = true) (hr : rest = [] ∨ ∃ c r, rest = c :: r ∧ p c = false) : (t ++ rest).takeWhile p = t := by
  rw [List.takeWhile_append_of_pos h]
  rcases hr with rfl | ⟨c, r, rfl, hc⟩
  · simp
  · rw [List.takeWhile_cons_of_neg (by rw [hc]; exact Bool.false_ne_true), List.append_nil]
theorem tokOk_plain {c : Nat} {t : List Nat} (hc : c ≠ 39) (h : ∀ x ∈ c :: t, x ≠ 32) : tokOk (c :: t) := by
  refine ⟨by simp, fun rest hr => ?_⟩
  rw [List.cons_append, fp_cons, if_neg hc, ← List.cons_append]
  refine takeW (fun x hx => decide_eq_true (h x hx)) ?_
  rcases hr with rfl | ⟨r, rfl⟩
  · exact .inl rfl
  · exact .inr ⟨32, r, rfl, by decide⟩
theorem tokOk_text {l : List Nat} (h : 39 ∉ l) : tokOk (39 :: (l ++ [39])) := by
  refine ⟨by simp, fun rest hr => ?_⟩
  rw [List.cons_append, fp_cons, if_pos rfl, if_pos (by simp)]
  congr 1
  have e : l ++ [39] ++ rest = l ++ (39 :: rest) := by simp
  rw [e, takeW (p := fun x => decide (x ≠ 39)) (fun x hx => decide_eq_true (show x ≠ 39 from fun z => h (by rw [← z]; exact hx))) (.inr ⟨39, rest, rfl, by decide⟩)]
theorem numL_head : ∀ n : Nat, 0 < n → (TL.numL n).head? ≠ some 48 := by
  intro n
  induction n using Nat.strongRecOn with
  | ind n ih =>
    intro h
    by_cases h10 : n < 10
    · rw [TL.numL_lt h10]
      simp
      omega
    · rw [TL.numL_step (by omega)]
      have := ih (n / 10) (by omega) (by omega)
      cases e : TL.numL (n / 10) with
      | nil => exact absurd e (TL.numL_ne _)
      | cons c r =>
        rw [e] at this
        simpa using this
theorem numT_nat (n : Nat) : numT (n : Int) = TL.numL n := by
  unfold numT
  rw [SX.num_S]
theorem numT_neg (n : Nat) (h : 0 < n) : numT (-(n : Int)) = 45 :: TL.numL n := by
  unfold numT
  rw [PyProof.Rows.toString_neg (by omega)]
  have e : (0 - -(n : Int)) = (n : Int) := by omega
  rw [e]
  have : Str.ofString ("-" ++ toString (n : Int)) = S (45 :: TL.numL n) := by
    apply TL.ext_tl
    rw [TL.tl_ofString, String.toList_append, List.map_append]
    have := TL.tl_num n
    rw [TL.tl_ofString] at this
    rw [this]
    rfl
  rw [this]
theorem numL_in (n : Nat) : ∀ c ∈ TL.numL n, c ∈ digitsL := fun c hc => by
  have := TL.numL_digits n c hc
  rw [show digitsL = [48, 49, 50, 51, 52, 53, 54, 55, 56, 57] by decide +kernel]
  simp
  omega
theorem numL_first (n : Nat) : ∃ c r, TL.numL n = c :: r ∧ 48 ≤ c ∧ c ≤ 57 := by
  cases e : TL.numL n with
  | nil => exact absurd e (TL.numL_ne n)
  | cons c r =>
    have := TL.numL_digits n c (by rw [e]; simp)
    exact ⟨c, r, rfl, this⟩
theorem numOf_num {i : Int} (h1 : -2147483648 ≤ i) (h2 : i ≤ 2147483647) : numOf (numT i) = some i := by
  have hl : ∀ n : Nat, n ≤ 2147483648 → (TL.numL n).length ≤ 10 := fun n hn => TL.numL_len (by omega) (by omega)
  have hp : ∀ n : Nat, 1 ≤ (TL.numL n).length := fun n => List.length_pos_iff.mpr (TL.numL_ne n)
  have ha : ∀ n : Nat, ((TL.numL n).all fun c => decide (c ∈ digitsL)) = true := fun n => List.all_eq_true.mpr fun c hc => decide_eq_true (numL_in n c hc)
  by_cases hi : 0 ≤ i
  · obtain ⟨n, rfl⟩ := Int.eq_ofNat_of_zero_le hi
    rw [numT_nat]
    obtain ⟨c, r, e, c1, c2⟩ := numL_first n
    have hm : ¬ List.take 1 (TL.numL n) = [45] := by
      rw [e]
      simp
      omega
    have hd : digs (TL.numL n) = TL.numL n := by unfold digs; rw [if_neg hm]
    unfold numOf
    rw [hd, if_neg (by rw [ha]; rintro (z | z); exact z ⟨hp n, hl n (by omega)⟩; cases z), if_neg (by
      rintro ⟨z1, z2⟩
      by_cases hn : n = 0
      · subst hn
        exact z2 (TL.numL_lt (by omega))
      · exact numL_head n (by omega) z1)]
    dsimp only
    rw [if_neg hm, TL.numL_val, if_pos ⟨by omega, by omega⟩]
  · obtain ⟨n, rfl⟩ : ∃ n : Nat, i = -(n : Int) := ⟨(-i).toNat, by omega⟩
    have hn : 0 < n := by omega
    rw [numT_neg n hn]
    have hm : List.take 1 (45 :: TL.numL n) = [45] := rfl
    have hd : digs (45 :: TL.numL n) = TL.numL n := by unfold digs; rw [if_pos hm]; rfl
    unfold numOf
    rw [hd, if_neg (by rw [ha]; rintro (z | z); exact z ⟨hp n, hl n (by omega)⟩; cases z), if_neg (by
      rintro ⟨z1, z2⟩
      exact numL_head n hn z1)]
    dsimp only
    rw [if_pos hm, TL.numL_val, if_pos ⟨by omega, by omega⟩]
theorem name_plain {l : List Nat} (h : isName l = true) : tokOk l ∧ (∀ c ∈ l, c ∈ signsL) ∧ l.length ≤ 8 := by
  unfold isName at h
  simp at h
  obtain ⟨⟨h1, h2⟩, h3⟩ := h
  refine ⟨?_, fun c hc => (letters_ok c (h3 c hc)).1, h2⟩
  cases l with
  | nil => simp at h1
  | cons c t =>
    refine tokOk_plain (letters_ok c (h3 c (by simp))).2 (fun x hx z => ?_)
    have := h3 x hx
    rw [z] at this
    exact absurd this (by decide +kernel)
theorem digits_sign : ∀ c ∈ digitsL, c ∈ signsL ∧ c ≠ 32 ∧ c ≠ 39 := by decide +kernel
theorem numT_tok {i : Int} (h1 : -2147483648 ≤ i) (h2 : i ≤ 2147483647) : tokOk (numT i) ∧ (∀ c ∈ numT i, c ∈ signsL) ∧ (numT i).length ≤ 11 ∧ (numT i).take 1 ≠ [39] ∧ (numT i).take 1 ≠ [36] := by
  have hl : ∀ n : Nat, n ≤ 2147483648 → (TL.numL n).length ≤ 10 := fun n hn => TL.numL_len (by omega) (by omega)
  by_cases hi : 0 ≤ i
  · obtain ⟨n, rfl⟩ := Int.eq_ofNat_of_zero_le hi
    rw [numT_nat]
    obtain ⟨c, r, e, c1, c2⟩ := numL_first n
    have hin := numL_in n
    have := hl n (by omega)
    rw [e] at hin this ⊢
    refine ⟨tokOk_plain (by omega) fun x hx => (digits_sign x (hin x hx)).2.1, fun x hx => (digits_sign x (hin x hx)).1, by omega, ?_, ?_⟩
    · simp; omega
    · simp; omega
  · obtain ⟨n, rfl⟩ : ∃ n : Nat, i = -(n : Int) := ⟨(-i).toNat, by omega⟩
    rw [numT_neg n (by omega)]
    have hin := numL_in n
    have := hl n (by omega)
    refine ⟨tokOk_plain (by omega) fun x hx => ?_, fun x hx => ?_, by rw [List.length_cons]; omega, by simp, by simp⟩
    · rcases List.mem_cons.mp hx with rfl | z
      · omega
      · exact (digits_sign x (hin x z)).2.1
    · rcases List.mem_cons.mp hx with rfl | z
      · decide +kernel
      · exact (digits_sign x (hin x z)).1
theorem tok_term {u : Int} {d : D} (hu : u ≤ 3) (h : termOk u d) : tokOk (tok d) ∧ (∀ c ∈ tok d, c ∈ signsL) ∧ (tok d).length ≤ 42 ∧ termOf (tok d) = d := by
  rcases h with ⟨m, h1, h2, h3, rfl⟩ | ⟨l, hl, rfl⟩ | ⟨i, h1, h2, rfl⟩
  · have e : tok (parD m) = 36 :: numT m := by
      show (if ("parameter" : Str) = "text" then [] else 36 :: numT m) = _
      rw [if_neg (by decide +kernel)]
    have hm : m = 1 ∨ m = 2 ∨ m = 3 ∨ m = 4 := by omega
    rw [e]
    rcases hm with rfl | rfl | rfl | rfl
    all_goals
      refine ⟨tokOk_plain (by omega) ?_, ?_, ?_, ?_⟩ <;> first | (decide +kernel) | kernel_rfl
  · have e : tok (txtD l) = 39 :: (l ++ [39]) := by
      show (if ("text" : Str) = "text" then 39 :: (l ++ [39]) else []) = _
      rw [if_pos rfl]
    have hl2 := hl
    unfold isText isStrg at hl2
    simp at hl2
    obtain ⟨⟨⟨_, h3⟩, h4⟩, h5⟩ := hl2
    rw [e]
    refine ⟨tokOk_text h5, fun c hc => ?_, by simp; omega, ?_⟩
    · simp at hc
      rcases hc with rfl | hc | rfl
      · decide +kernel
      · exact h3 c hc
      · decide +kernel
    · have e2 : (List.drop 1 (39 :: (l ++ [39]))).dropLast = l := by simp
      unfold termOf
      rw [if_pos (show List.take 1 (39 :: (l ++ [39])) = [39] from rfl), e2, if_pos ⟨by simp, by
        rw [← List.cons_append, List.getLast?_append]
        rfl, hl⟩]
  · obtain ⟨a, b, c, d1, d2⟩ := numT_tok h1 h2
    refine ⟨a, b, by show (numT i).length ≤ 42; omega, ?_⟩
    show termOf (numT i) = _
    unfold termOf
    rw [if_neg d1, if_neg d2, numOf_num h1 h2]
    rfl
theorem join_all : ∀ (ts : List (List Nat)), (∀ t ∈ ts, ∀ c ∈ t, c ∈ signsL) → ∀ c ∈ TL.joinL [32] ts, c ∈ signsL
  | [], _, _, h => by cases h
  | [t], h, c, hc => h t (by simp) c hc
  | t :: u :: ts, h, c, hc => by
    have hc : c ∈ t ++ (32 :: TL.joinL [32] (u :: ts)) := hc
    rcases List.mem_append.mp hc with z | z
    · exact h t (by simp) c z
    · rcases List.mem_cons.mp z with rfl | z
      · decide +kernel
      · exact join_all (u :: ts) (fun v hv => h v (by simp [List.mem_cons.mp hv])) c z
theorem map_id' {α : Type} {f : α → α} : ∀ {xs : List α}, (∀ x ∈ xs, f x = x) → xs.map f = xs
  | [], _ => rfl
  | x :: xs, h => by rw [List.map_cons, h x (by simp), map_id' fun y hy => h y (by simp [hy])]
theorem any_num (m : Int) (ns : List Int) : ((ns.map D.int).any fun y => deq y (.int m)) = decide (m ∈ ns) := by
  rw [List.any_map, Bool.eq_iff_iff, List.any_eq_true]
  simp [deq_int]
theorem read_written {ds : List D} (h : stmtOk ds) : readS (written ds) = some ds ∧ (written ds).length ≤ 200 := by
  rcases h with ⟨w, hw, hf, rfl⟩ | ⟨w, n, ts, hw, hn, hl, hf, ht, hc, rfl⟩
  · obtain ⟨a, b, c⟩ := name_plain hw
    have e : written [strD w] = w := rfl
    rw [e]
    refine ⟨?_, by omega⟩
    have hs : isStrg w = true := by
      unfold isStrg
      simp
      exact ⟨by omega, b⟩
    have hp : partsOf w = some [w] := partsOf_join (t := w) (ts := []) fun u hu => by
      rw [List.mem_singleton] at hu
      rw [hu]
      exact a
    unfold readS
    rw [if_pos hs, hp]
    show stmtOf [w] = _
    unfold stmtOf
    rw [if_neg (by rw [show headOk [w] = formOk w 0 from rfl, hf]; exact fun z => by cases z)]
    rfl
  · obtain ⟨a, b, c⟩ := name_plain hw
    obtain ⟨a2, b2, c2⟩ := name_plain hn
    have e : written (strD w :: strD n :: ts) = TL.joinL [32] (w :: n :: ts.map tok) := rfl
    have hall : ∀ u ∈ w :: n :: ts.map tok, tokOk u ∧ (∀ c ∈ u, c ∈ signsL) := fun u hu => by
      rcases List.mem_cons.mp hu with rfl | hu
      · exact ⟨a, b⟩
      · rcases List.mem_cons.mp hu with rfl | hu
        · exact ⟨a2, b2⟩
        · obtain ⟨t, htm, rfl⟩ := List.mem_map.mp hu
          have := tok_term (by omega) (ht t htm)
          exact ⟨this.1, this.2.1⟩
    have hp := partsOf_join fun u hu => (hall u hu).1
    have hlen : (written (strD w :: strD n :: ts)).length ≤ 200 := by
      rw [e]
      match ts, hl, ht with
      | [], _, _ =>
        show (w ++ (32 :: n)).length ≤ 200
        rw [List.length_append, List.length_cons]
        omega
      | [t1], _, ht =>
        have l1 := (tok_term (by omega) (ht t1 (by simp))).2.2.1
        show (w ++ (32 :: (n ++ (32 :: tok t1)))).length ≤ 200
        simp only [List.length_append, List.length_cons]
        omega
      | [t1, t2], _, ht =>
        have l1 := (tok_term (by omega) (ht t1 (by simp))).2.2.1
        have l2 := (tok_term (by omega) (ht t2 (by simp))).2.2.1
        show (w ++ (32 :: (n ++ (32 :: (tok t1 ++ (32 :: tok t2)))))).length ≤ 200
        simp only [List.length_append, List.length_cons]
        omega
      | _ :: _ :: _ :: _, hl, _ => simp at hl
    refine ⟨?_, hlen⟩
    have hs : isStrg (written (strD w :: strD n :: ts)) = true := by
      unfold isStrg
      rw [Bool.and_eq_true]
      refine ⟨decide_eq_true hlen, List.all_eq_true.mpr fun c hc => decide_eq_true ?_⟩
      rw [e] at hc
      exact join_all _ (fun t ht => (hall t ht).2) c hc
    unfold readS
    rw [if_pos hs, e, hp]
    show stmtOf (w :: n :: ts.map tok) = _
    have hterms : (ts.map tok).map termOf = ts := by
      rw [List.map_map]
      exact map_id' fun t htm => (tok_term (by omega) (ht t htm)).2.2.2
    have e2 : ((w :: n :: ts.map tok).drop 2).map termOf = ts := hterms
    have e3 : ((w :: n :: ts.map tok).take 2).map strD = [strD w, strD n] := rfl
    unfold stmtOf
    rw [if_neg (by
      rw [show headOk (w :: n :: ts.map tok) = (formOk w ((ts.map tok).length + 1) && isName n) from rfl, List.length_map, hf, hn]
      exact fun z => by cases z), e2, e3, if_neg (by
      rw [List.any_eq_true]
      rintro ⟨t, htm, hnon⟩
      rcases ht t htm with ⟨m, _, _, _, rfl⟩ | ⟨l, _, rfl⟩ | ⟨i, _, _, rfl⟩ <;> cases hnon)]
    dsimp only
    rw [if_pos]
    · rfl
    · show ((intsD 1 (maxI 0 (parNs ts)).toNat).all fun e => ((parNs ts).map D.int).any fun y => deq y e) = true
      rw [List.all_eq_true]
      intro x hx
      obtain ⟨k, hk, rfl⟩ := List.getElem_of_mem hx
      rw [intsD_len] at hk
      have ek := (intsD_at (List.getElem?_eq_getElem (by rw [intsD_len]; exact hk) : (intsD 1 (maxI 0 (parNs ts)).toNat)[k]? = _)).2
      rw [ek, any_num]
      exact decide_eq_true (hc _ (by omega) (by omega))
end M
end
section
namespace M
open PySem PySem.Spec PyProof.Rows L2
open SX (S S_len S_cat)
def valK : Key → Prop
  | .inl i => -2147483648 ≤ i ∧ i ≤ 2147483647
  | .inr s => isText s.cps.toList = true
def genC : Cmd → Prop
  | .prepare n z => isName n.cps.toList = true ∧ isStrg z.cps.toList = true
  | .bind p n vs => isName p.cps.toList = true ∧ isName n.cps.toList = true ∧ vs.length ≤ 4 ∧ ∀ v ∈ vs, valK v
  | .run n m => isName n.cps.toList = true ∧ 0 ≤ m ∧ m ≤ 1000
  | .forget n => isName n.cps.toList = true
  | .close n => isName n.cps.toList = true
def gens (cs : List Cmd) : Prop := ∀ c ∈ cs, genC c
def sp__law_unit : Spec := fun ds μ Q _ => match ds with
  | [.lst row] => ∃ ns : List Int, row = ns.map .int ∧ ns.length = 16 ∧ (∀ x ∈ ns, 0 ≤ x ∧ x < 840) ∧ ∀ cs, gens cs → cs.length ≤ 6 → Q (cmdsD cs) μ
  | _ => False
def sp__law_units : Spec := fun ds μ Q _ => match ds with
  | [.int _, .int n] => 0 ≤ n ∧ n ≤ 20 ∧ ∀ cs, gens cs → cs.length ≤ 20 → Q (cmdsD cs) μ
  | _ => False
def N__law_unit : List Str := ["_law_row_here", "_law_name_here", "_law_portal", "_law_menu", "_law_parts", "_law_values", "_law_most", "_law_commands", "_law_k"]
def r12__law_unit : IR := .seq (.ret (.frz (.var 7))) (.nil)
def r11__law_unit : IR := .seq (.ifS (.cmp .Eq (.bin .Mod (.ix (.var 0) (.con (.int 14))) (.con (.int 18))) (.con (.int 2))) (.seq (.asg (.gSub (.var 7) (.con (.int 2))) (.tupC (.cons (.con (.str "prepare")) (.cons (.var 1) (.cons (.ix (.lstC (.cons (.con (.str "put t 1")) (.cons (.con (.str "scan t $2 1")) (.cons (.con (.str "PUT t 1 1")) (.cons (.con (.str "")) (.cons (.bin .Mult (.con (.str "y")) (.bin .Add (.con (.int 99)) (.bin .Mod (.ix (.var 0) (.con (.int 15))) (.con (.int 102))))) .nil)))))) (.bin .Mod (.ix (.var 0) (.con (.int 15))) (.con (.int 5)))) .nil))))) (.nil)) (.nil)) r12__law_unit
def r10__law_unit : IR := .seq (.ifS (.cmp .Eq (.bin .Mod (.ix (.var 0) (.con (.int 14))) (.con (.int 6))) (.con (.int 1))) (.seq (.asg (.gN 7) (.nod fSlL eSlL (.cons (.var 7) (.cons (.bin .Mod (.ix (.var 0) (.con (.int 15))) (.con (.int 5))) .nil)))) (.nil)) (.nil)) r11__law_unit
def r9__law_unit : IR := .seq (.ifS (.cmp .Eq (.bin .Mod (.ix (.var 0) (.con (.int 14))) (.con (.int 6))) (.con (.int 0))) (.seq (.exp (.bme "list" "list.append" "append" spApp (.var 7) (.cons (.tupC (.cons (.con (.str "run")) (.cons (.var 2) (.cons (.bin .Mod (.ix (.var 0) (.con (.int 15))) (.con (.int 3))) .nil)))) .nil))) (.nil)) (.nil)) r10__law_unit
def r8__law_unit : IR := .seq (.asg (.gN 7) (.nod fAddM eAddM (.cons (.var 7) (.cons (.lstC (.cons (.tupC (.cons (.con (.str "bind")) (.cons (.var 2) (.cons (.var 1) (.cons (.cal "tuple" spTup (.cons (.var 5) .nil)) .nil))))) (.cons (.tupC (.cons (.con (.str "run")) (.cons (.var 2) (.cons (.var 6) .nil)))) .nil))) .nil)))) r9__law_unit
def r7__law_unit : IR := .seq (.asg (.gN 7) (.lstM (.cons (.tupC (.cons (.con (.str "close")) (.cons (.var 2) .nil))) (.cons (.tupC (.cons (.con (.str "forget")) (.cons (.var 1) .nil))) (.cons (.tupC (.cons (.con (.str "prepare")) (.cons (.var 1) (.cons (.cal "_law_written" sp__law_written (.cons (.var 4) .nil)) .nil)))) .nil))))) r8__law_unit
def r6__law_unit : IR := .seq (.asg (.gN 6) (.ix (.lstC (.cons (.con (.int 0)) (.cons (.bin .Mod (.bin .FloorDiv (.ix (.var 0) (.con (.int 13))) (.con (.int 4))) (.con (.int 24))) (.cons (.con (.int 0)) (.cons (.con (.int 1000)) .nil))))) (.bin .Mod (.ix (.var 0) (.con (.int 13))) (.con (.int 4))))) r7__law_unit
def r5__law_unit : IR := .seq (.ifS (.cmp .Eq (.bin .Mod (.ix (.var 0) (.con (.int 12))) (.con (.int 9))) (.con (.int 0))) (.seq (.asg (.gN 5) (.sl (.bin .Add (.sl (.var 5) (.con (.int 1)) (.nop)) (.nod fMulL eMulL (.cons (.lstC (.cons (.con (.int 5)) (.cons (.con (.str "x")) .nil))) (.cons (.bin .Mod (.bin .FloorDiv (.ix (.var 0) (.con (.int 12))) (.con (.int 9))) (.con (.int 3))) .nil)))) (.nop) (.con (.int 4)))) (.nil)) (.nil)) r6__law_unit
def r4__law_unit : IR := .seq (.asc 5 (.cpr [("_law_k", 8)] (.gN 8) (.itR1 (.cal "_law_used" sp__law_used (.cons (.var 4) .nil))) (.nop) (.cal "_law_value" sp__law_value (.cons (.ix (.var 0) (.bin .Add (.con (.int 8)) (.var 8))) .nil)))) r5__law_unit
def r3__law_unit : IR := .seq (.asg (.gN 4) (.cal "_law_statement" sp__law_statement (.cons (.sl (.var 0) (.con (.int 2)) (.con (.int 8))) (.cons (.var 3) .nil)))) r4__law_unit
def r2__law_unit : IR := .seq (.asg (.gN 3) (.ix (.lstC (.cons (.lstC (.cons (.con (.str "tab")) (.cons (.con (.str "tax")) (.cons (.con (.str "tabb")) .nil)))) (.cons (.lstC (.cons (.con (.str "tab")) (.cons (.con (.str "begin")) (.cons (.con (.str "put")) .nil)))) (.cons (.lstC (.cons (.con (.str "tablelow")) (.cons (.con (.str "tablelox")) (.cons (.con (.str "tab")) .nil)))) .nil)))) (.ix (.lstC (.cons (.con (.int 0)) (.cons (.con (.int 0)) (.cons (.con (.int 1)) (.cons (.con (.int 2)) .nil))))) (.bin .Mod (.bin .FloorDiv (.ix (.var 0) (.con (.int 14))) (.con (.int 18))) (.con (.int 4)))))) r3__law_unit
def r1__law_unit : IR := .seq (.asg (.gN 2) (.ix (.lstC (.cons (.con (.str "porta")) (.cons (.con (.str "portb")) (.cons (.con (.str "port")) (.cons (.con (.str "savexabc")) (.cons (.var 1) (.cons (.var 1) .nil))))))) (.bin .Mod (.ix (.var 0) (.con (.int 1))) (.con (.int 6))))) r2__law_unit
def c__law_unit : IR := .seq (.asg (.gN 1) (.ix (.lstC (.cons (.con (.str "stmta")) (.cons (.con (.str "stmtb")) (.cons (.con (.str "stmt")) (.cons (.con (.str "savexabc")) (.cons (.con (.str "savexabd")) (.cons (.con (.str "begin")) .nil))))))) (.bin .Mod (.ix (.var 0) (.con (.int 0))) (.con (.int 6))))) r1__law_unit
def N__law_units : List Str := ["_law_cell_here", "_law_count", "_law_row_here", "_law_commands", "_law_k"]
def b1__law_units : IR := .seq (.asg (.gN 3) (.bin .Add (.var 3) (.cal "_law_unit" sp__law_unit (.cons (.sl (.var 2) (.bin .Mult (.con (.int 16)) (.var 4)) (.bin .Add (.bin .Mult (.con (.int 16)) (.var 4)) (.con (.int 16)))) .nil)))) (.nil)
def r3__law_units : IR := .seq (.ret (.sl (.var 3) (.nop) (.con (.int 20)))) (.nil)
def r2__law_units : IR := .seq (.fr (.gN 4) (.itR1 (.var 1)) b1__law_units) r3__law_units
def r1__law_units : IR := .seq (.asg (.gN 3) (.lstC (.nil))) r2__law_units
def c__law_units : IR := .seq (.asg (.gN 2) (.cal "_law_row" sp__law_row (.cons (.var 0) (.cons (.bin .Mult (.con (.int 16)) (.var 1)) .nil)))) r1__law_units
end M
end
section
namespace M
open PySem PySem.Spec PyProof.Rows L2
open SX (S S_len S_cat)
theorem stmtOk_items {ds : List D} (h : stmtOk ds) : ds.length ≤ 4 ∧ (∀ d ∈ ds, okItemT d = true ∧ okItem d = true ∧ okItem (listed d) = true ∧ parN (listed d) = parN d ∧ (wrOk d ∧ (tok d).length ≤ 1000) ∧ eqN 11 d = true ∧ tyName d ⟨0, fun _ => none⟩ ≠ some "bool" ∧ (∀ μ, tyName d μ = tyName d ⟨0, fun _ => none⟩) ∧ (∀ n, parN d = some n → 0 ≤ n) ∧ ∃ a, tyName d ⟨0, fun _ => none⟩ = some a ∧ a ∈ ["str", "int", "tuple"]) := by
  have str : ∀ l, isName l = true → okItemT (strD l) = true ∧ okItem (strD l) = true ∧ okItem (listed (strD l)) = true ∧ parN (listed (strD l)) = parN (strD l) ∧ (wrOk (strD l) ∧ (tok (strD l)).length ≤ 1000) ∧ eqN 11 (strD l) = true ∧ tyName (strD l) ⟨0, fun _ => none⟩ ≠ some "bool" ∧ (∀ μ, tyName (strD l) μ = tyName (strD l) ⟨0, fun _ => none⟩) ∧ (∀ n, parN (strD l) = some n → 0 ≤ n) ∧ ∃ a, tyName (strD l) ⟨0, fun _ => none⟩ = some a ∧ a ∈ ["str", "int", "tuple"] := fun l hl =>
    ⟨rfl, rfl, rfl, rfl, ⟨.inl ⟨l, rfl⟩, by have := (name_plain hl).2.2; show l.length ≤ 1000; omega⟩, rfl, (by rw [strD, tn_str]; decide), fun _ => rfl, (fun n h => by cases h), "str", rfl, by simp⟩
  have term : ∀ d, termOk 3 d → okItemT d = true ∧ okItem d = true ∧ okItem (listed d) = true ∧ parN (listed d) = parN d ∧ (wrOk d ∧ (tok d).length ≤ 1000) ∧ eqN 11 d = true ∧ tyName d ⟨0, fun _ => none⟩ ≠ some "bool" ∧ (∀ μ, tyName d μ = tyName d ⟨0, fun _ => none⟩) ∧ (∀ n, parN d = some n → 0 ≤ n) ∧ ∃ a, tyName d ⟨0, fun _ => none⟩ = some a ∧ a ∈ ["str", "int", "tuple"] := fun d hd => by
    have ht := tok_term (by omega) hd
    have hl : (tok d).length ≤ 1000 := by have := ht.2.2.1; omega
    have hp : ∀ n, parN d = some n → 0 ≤ n := fun n e => by have := termOk_par hd e; omega
    have hit := termOk_item hd
    rcases hd with ⟨m, h1, h2, h3, rfl⟩ | ⟨l, h1, rfl⟩ | ⟨i, h1, h2, rfl⟩
    · exact ⟨hit, rfl, rfl, rfl, ⟨.inr (.inr (.inr ⟨m, by omega, rfl⟩)), hl⟩, rfl, by simp [parD, tn_tup], fun _ => rfl, hp, "tuple", rfl, by simp⟩
    · exact ⟨hit, hit, hit, rfl, ⟨.inr (.inr (.inl ⟨l, rfl⟩)), hl⟩, rfl, by simp [txtD, tn_tup], fun _ => rfl, hp, "tuple", rfl, by simp⟩
    · exact ⟨hit, rfl, rfl, rfl, ⟨.inr (.inl ⟨i, by omega, rfl⟩), hl⟩, rfl, by simp [tn_int], fun _ => rfl, hp, "int", rfl, by simp⟩
  rcases h with ⟨w, hw, hf, rfl⟩ | ⟨w, n, ts, hw, hn, hl, hf, ht, hc, rfl⟩
  · refine ⟨by simp, fun d hd => ?_⟩
    rw [List.mem_singleton] at hd
    subst hd
    exact str w hw
  · refine ⟨by simp; omega, fun d hd => ?_⟩
    rcases List.mem_cons.mp hd with rfl | hd
    · exact str w hw
    · rcases List.mem_cons.mp hd with rfl | hd
      · exact str n hn
      · exact term d (ht d hd)
end M
end
section
namespace M
open PySem PySem.Spec PyProof.Rows L2
open SX (S S_len S_cat)
theorem stmt_gen {ds : List D} (h : stmtOk ds) : ds.length ≤ 4 ∧ ds.all okItemT = true ∧ (∀ d ∈ ds, wrOk d ∧ (tok d).length ≤ 1000) ∧ (0 ≤ maxI 0 (0 :: parNs ds) ∧ maxI 0 (0 :: parNs ds) ≤ 4) ∧ isStrg (written ds) = true := by
  obtain ⟨hl, hit⟩ := stmtOk_items h
  refine ⟨hl, List.all_eq_true.mpr fun d m => (hit d m).1, fun d m => (hit d m).2.2.2.2.1, ?_, ?_⟩
  · refine maxI_in 0 4 (by omega) fun n m => ?_
    rcases List.mem_cons.mp m with rfl | m
    · omega
    · obtain ⟨d, hd, e⟩ := List.mem_filterMap.mp m
      refine ⟨(hit d hd).2.2.2.2.2.2.2.2.1 n e, ?_⟩
      rcases h with ⟨w, hw, hf, rfl⟩ | ⟨w, n', ts, hw, hn, hl, hf, ht, hc, rfl⟩
      · rw [List.mem_singleton] at hd
        subst hd
        cases e
      · rcases List.mem_cons.mp hd with rfl | hd
        · cases e
        · rcases List.mem_cons.mp hd with rfl | hd
          · cases e
          · have := termOk_par (ht d hd) e
            omega
  · have hr := (read_written h).1
    unfold readS at hr
    split at hr
    · assumption
    · cases hr
theorem row_at {ns : List Int} {k : Int} {P : Int → Prop} (h0 : 0 ≤ k) (h1 : k < ns.length) (hP : ∀ x ∈ ns, P x) : ∃ x, P x ∧ ∀ (μ : Sto) (Q : Post), ixD (.lst (ns.map .int)) (.int k) μ Q = Q (.int x) μ := by
  obtain ⟨j, rfl⟩ : ∃ j : Nat, k = j := ⟨k.toNat, by omega⟩
  have hj : j < ns.length := by omega
  refine ⟨ns[j], hP _ (List.getElem_mem hj), fun μ Q => ?_⟩
  have e : atI (ns.map D.int) (j : Int) = some (.int ns[j]) := by
    rw [atI_nat', List.getElem?_map, List.getElem?_eq_getElem hj]
    rfl
  simp [ixD, sq_lst, e]
theorem ix_pick {l : List D} {i : Int} {P : D → Prop} {μ : Sto} {Q : Post} (h0 : 0 ≤ i) (h1 : i < l.length) (hP : ∀ d ∈ l, P d) (q : ∀ d, P d → Q d μ) : ixD (.lst l) (.int i) μ Q := by
  obtain ⟨j, rfl⟩ : ∃ j : Nat, i = j := ⟨i.toNat, by omega⟩
  have hj : j < l.length := by omega
  have e : atI l (j : Int) = some l[j] := by
    rw [atI_nat', List.getElem?_eq_getElem hj]
  have := q _ (hP _ (List.getElem_mem hj))
  simpa [ixD, sq_lst, e] using this
def nameD (d : D) : Prop := ∃ n : Str, isName n.cps.toList = true ∧ d = .str n
theorem valOk_key {d : D} (h : valOk d) : ∃ k, valK k ∧ d = keyD k := by
  rcases h with ⟨l, hl, rfl⟩ | ⟨i, h1, h2, rfl⟩
  · exact ⟨.inr (S l), hl, rfl⟩
  · exact ⟨.inl i, ⟨h1, h2⟩, rfl⟩
theorem keys_of : ∀ {ds : List D}, (∀ d ∈ ds, ∃ k, valK k ∧ d = keyD k) → ∃ vs : List Key, (∀ v ∈ vs, valK v) ∧ ds = vs.map keyD
  | [], _ => ⟨[], (fun v m => by cases m), rfl⟩
  | d :: ds, h => by
    obtain ⟨k, hk, rfl⟩ := h d (by simp)
    obtain ⟨vs, hv, rfl⟩ := keys_of (ds := ds) fun x m => h x (by simp [m])
    exact ⟨k :: vs, fun v m => (List.mem_cons.mp m).elim (fun e => e ▸ hk) (hv v), rfl⟩
theorem loop_vals {n : Nat} (hn : n ≤ 4) {fin : List D → Sto → Prop} {turn : D → Sto → (Option D → Sto → Prop) → Prop} {gd : Sto → Prop} {μ : Sto} (hg : gd μ) (ht : ∀ k : Nat, k < 4 → ∀ N : Option D → Sto → Prop, (∀ d, valOk d → N (some d) μ) → turn (.int k) μ N) (hf : ∀ vs : List Key, vs.length ≤ 4 → (∀ v ∈ vs, valK v) → fin (vs.map keyD) μ) : loopC turn gd fin (intsD 0 n) [] μ := by
  have := sz1000
  have all : ∀ m : Nat, m ≤ n → ∀ acc : List D, acc.length = n - m → (∀ d ∈ acc, ∃ k, valK k ∧ d = keyD k) → loopC turn gd fin ((intsD 0 n).drop (n - m)) acc μ := by
    intro m
    induction m with
    | zero =>
      intro _ acc ha hk
      rw [Nat.sub_zero, List.drop_of_length_le (by rw [intsD_len]; exact Nat.le_refl _)]
      obtain ⟨vs, hv, rfl⟩ := keys_of hk
      exact ⟨hg, hf vs (by rw [List.length_map] at ha; omega) hv⟩
    | succ m ih =>
      intro hm acc ha hk
      have hlt : n - (m + 1) < (intsD 0 n).length := by rw [intsD_len]; omega
      rw [List.drop_eq_getElem_cons hlt]
      have ex : (intsD 0 n)[n - (m + 1)] = .int ((n - (m + 1) : Nat) : Int) := by
        have := (intsD_at (List.getElem?_eq_getElem hlt)).2
        rw [this, Int.zero_add]
      rw [ex]
      refine ⟨hg, ht _ (by omega) _ fun d hd => ⟨by omega, ?_⟩⟩
      rw [show n - (m + 1) + 1 = n - m by omega]
      refine ih (by omega) (acc ++ [d]) (by rw [List.length_append, ha]; simp; omega) fun x mx => ?_
      rcases List.mem_append.mp mx with mx | mx
      · exact hk x mx
      · rw [List.mem_singleton.mp mx]
        exact valOk_key hd
  have := all n (Nat.le_refl _) [] (by simp) (fun d m => by cases m)
  rw [Nat.sub_self] at this
  exact this
theorem cmdD_Bg (n : Nat) (c : Cmd) : objB n (cmdD c) = true := by
  cases c with
  | bind p m vs =>
    show (true && (true && (true && (objB n (tupK vs) && true)))) = true
    rw [tupK_B]
    rfl
  | _ => rfl
theorem cmdsD_Bg (n : Nat) (cs : List Cmd) : objB n (cmdsD cs) = true := objBs_map fun c _ => cmdD_Bg n c
theorem isT5 : valK (.inl 5) := ⟨by omega, by omega⟩
theorem isTx : valK (.inr "x") := by show isText _ = true; decide +kernel
theorem strg_y : ∀ k : Fin 102, isStrg (repS "y" (99 + k.val)).cps.toList = true := by decide +kernel
def strgD (d : D) : Prop := ∃ z : Str, isStrg z.cps.toList = true ∧ d = .str z
theorem w__law_unit : ∀ ds μ Q QX, μ.wf → objBs μ.next ds = true → sp__law_unit ds μ Q QX → ds.length = 1 ∧ wpS c__law_unit (startE N__law_unit ds) μ (outs μ.next Q QX) := by
  intro ds μ Q QX hw ho h
  unfold sp__law_unit at h
  split at h
  · rename_i row
    obtain ⟨ns, rfl, hl, hb, h1⟩ := h
    refine ⟨rfl, ?_⟩
    have := sz1000
    have le5 : 5 ≤ sizeLine := by omega
    have le4 : 4 ≤ sizeLine := by omega
    have le6 : 6 ≤ sizeLine := by omega
    obtain ⟨x0, b0, e0⟩ := row_at (k := 0) (by omega) (by omega) hb
    obtain ⟨x1, b1, e1⟩ := row_at (k := 1) (by omega) (by omega) hb
    obtain ⟨x12, b12, e12⟩ := row_at (k := 12) (by omega) (by omega) hb
    obtain ⟨x13, b13, e13⟩ := row_at (k := 13) (by omega) (by omega) hb
    obtain ⟨x14, b14, e14⟩ := row_at (k := 14) (by omega) (by omega) hb
    obtain ⟨x15, b15, e15⟩ := row_at (k := 15) (by omega) (by omega) hb
    simp [startE, wpS, wpT, wpE, wpA, wpI, wpG, wpGs, wpOpt, outs, wipeE, ePar, c__law_unit, N__law_unit, e0, binD, le6]
    have f0 := fmod_lt (a := x0) (b := 6) (by omega)
    have hn6 : ∀ x : Str, isName x.cps.toList = true → nameD (.str x) := fun x hx => ⟨x, hx, rfl⟩
    refine ix_pick f0.1 (by exact f0.2) (P := nameD) (fun d m => ?_) fun d ⟨n, hn, ed⟩ => ?_
    · simp only [List.mem_cons, List.not_mem_nil, or_false] at m
      rcases m with rfl | rfl | rfl | rfl | rfl | rfl <;> exact hn6 _ (by decide +kernel)
    subst ed
    simp [startE, wpS, wpT, wpE, wpA, wpI, wpG, wpGs, wpOpt, outs, wipeE, ePar, r1__law_unit, e1, binD, le6]
    have f1 := fmod_lt (a := x1) (b := 6) (by omega)
    refine ix_pick f1.1 (by exact f1.2) (P := nameD) (fun d m => ?_) fun d ⟨p, hp, ed⟩ => ?_
    · simp only [List.mem_cons, List.not_mem_nil, or_false] at m
      rcases m with rfl | rfl | rfl | rfl | rfl | rfl
      · exact hn6 _ (by decide +kernel)
      · exact hn6 _ (by decide +kernel)
      · exact hn6 _ (by decide +kernel)
      · exact hn6 _ (by decide +kernel)
      · exact hn6 _ hn
      · exact hn6 _ hn
    subst ed
    simp [startE, wpS, wpT, wpE, wpA, wpI, wpG, wpGs, wpOpt, outs, wipeE, ePar, r2__law_unit, e14, binD, three_le, le4]
    refine ⟨cdiv_small (by omega) (by omega), ?_⟩
    have f14 := fmod_lt (a := x14.fdiv 18) (b := 4) (by omega)
    refine ix_pick f14.1 (by exact f14.2) (P := fun d => ∃ i : Int, d = .int i ∧ 0 ≤ i ∧ i < 3) (fun d m => ?_) fun d ⟨i, ed, hi0, hi3⟩ => ?_
    · simp only [List.mem_cons, List.not_mem_nil, or_false] at m
      rcases m with rfl | rfl | rfl | rfl
      · exact ⟨0, rfl, by omega, by omega⟩
      · exact ⟨0, rfl, by omega, by omega⟩
      · exact ⟨1, rfl, by omega, by omega⟩
      · exact ⟨2, rfl, by omega, by omega⟩
    subst ed
    refine ix_pick hi0 (by exact hi3) (P := fun d => ∃ l : List D, d = .lst l ∧ l ≠ [] ∧ l.length < 1000 ∧ ∀ x ∈ l, ∃ z, isName z = true ∧ x = strD z) (fun d m => ?_) fun d ⟨names, ed, hm1, hm2, hm3⟩ => ?_
    · have mk : ∀ a b c : Str, isName a.cps.toList = true → isName b.cps.toList = true → isName c.cps.toList = true → ∃ l : List D, D.lst [.str a, .str b, .str c] = .lst l ∧ l ≠ [] ∧ l.length < 1000 ∧ ∀ x ∈ l, ∃ z, isName z = true ∧ x = strD z := fun a b c ha hb hc => by
        refine ⟨_, rfl, by simp, by simp, fun x m => ?_⟩
        simp only [List.mem_cons, List.not_mem_nil, or_false] at m
        rcases m with rfl | rfl | rfl
        · exact ⟨_, ha, by rw [strD, SX.S_tl]⟩
        · exact ⟨_, hb, by rw [strD, SX.S_tl]⟩
        · exact ⟨_, hc, by rw [strD, SX.S_tl]⟩
      simp only [List.mem_cons, List.not_mem_nil, or_false] at m
      rcases m with rfl | rfl | rfl <;> exact mk _ _ _ (by decide +kernel) (by decide +kernel) (by decide +kernel)
    subst ed
    have hcut : cutD (ns.map D.int) (some 2) (some 8) = ((ns.take 8).drop 2).map D.int := by
      rw [show (2 : Int) = ((2 : Nat) : Int) from rfl, show (8 : Int) = ((8 : Nat) : Int) from rfl, cut_mid, List.map_drop, List.map_take]
    simp [startE, wpS, wpT, wpE, wpA, wpI, wpG, wpGs, wpOpt, outs, wipeE, ePar, r3__law_unit, slD, l_lst, hcut, sp__law_statement]
    refine ⟨(ns.take 8).drop 2, by rw [List.map_drop, List.map_take], by simp; omega, fun x m => hb x (List.mem_of_mem_take (List.mem_of_mem_drop m)), hm1, hm2, hm3, fun ps hps => ?_⟩
    obtain ⟨g1, g2, g3, ⟨g4, g5⟩, g6⟩ := stmt_gen hps
    simp [startE, wpS, wpT, wpE, wpA, wpI, wpG, wpGs, wpOpt, outs, wipeE, ePar, r4__law_unit, sp__law_used, sq_tup]
    refine ⟨by omega, fun x m => List.all_eq_true.mp g2 x m, ?_⟩
    generalize maxI 0 (0 :: parNs ps) = u at g4 g5 ⊢
    refine ⟨by omega, by omega, ?_⟩
    refine loop_vals (n := u.toNat) (by omega) trivial (fun k hk N hN => ?_) (fun vs hv1 hv2 => ?_)
    · obtain ⟨x, bx, ex⟩ := row_at (k := (8 + (k : Int))) (by omega) (by omega) hb
      simp [startE, wpS, wpT, wpE, wpA, wpI, wpG, wpGs, wpOpt, outs, wipeE, ePar, binD, ex, sp__law_value]
      exact hN
    · -- the rest, the values given
      have rest : ∀ vs : List Key, vs.length ≤ 4 → (∀ v ∈ vs, valK v) → wpS r6__law_unit [some (.lst (ns.map .int)), some (.str n), some (.str p), some (.lst names), some (.tup ps), some (.lst (vs.map keyD)), none, none, none] μ (outs μ.next Q QX) := fun vs hv1 hv2 => by
        simp [startE, wpS, wpT, wpE, wpA, wpI, wpG, wpGs, wpOpt, outs, wipeE, ePar, r6__law_unit, e13, binD, le4]
        refine ⟨cdiv_small (by omega) (by omega), ?_⟩
        have f13 := fmod_lt (a := x13) (b := 4) (by omega)
        have f13b := fmod_lt (a := x13.fdiv 4) (b := 24) (by omega)
        refine ix_pick f13.1 (by exact f13.2) (P := fun d => ∃ i : Int, d = .int i ∧ 0 ≤ i ∧ i ≤ 1000) (fun d m => ?_) fun d ⟨mo, ed, hi0, hi3⟩ => ?_
        · simp only [List.mem_cons, List.not_mem_nil, or_false] at m
          rcases m with rfl | rfl | rfl | rfl
          · exact ⟨0, rfl, by omega, by omega⟩
          · exact ⟨_, rfl, by omega, by omega⟩
          · exact ⟨0, rfl, by omega, by omega⟩
          · exact ⟨1000, rfl, by omega, by omega⟩
        subst ed
        have hB : ∀ cs : List Cmd, objBs (μ.next + 1) (cs.map cmdD) = true := fun cs => objBs_map fun c _ => cmdD_Bg _ c
        have last : ∀ {μ' : Sto} {k : Nat} {cs : List Cmd} (O : Outs), O.rt = finP μ.next Q → gens cs → cs.length ≤ 6 → μ.Part μ' → μ.next ≤ k → μ'.cell k = some (.lst (cs.map cmdD)) → wpS r12__law_unit [some (.lst (ns.map .int)), some (.str n), some (.str p), some (.lst names), some (.tup ps), some (.lst (vs.map keyD)), some (.int mo), some (.obj k), none] μ' O := by
          intro μ' k cs O hO hg hlen hp hk hc
          simp [startE, wpS, wpT, wpE, wpA, wpI, wpG, wpGs, wpOpt, outs, wipeE, ePar, r12__law_unit, hc]
          rw [hO]
          exact fin_part (part_del hw hp hk) (cmdsD_Bg _ cs) (h1 cs hg hlen)
        have st11 : ∀ {μ' : Sto} {k : Nat} {cs : List Cmd} (O : Outs), O.rt = finP μ.next Q → gens cs → cs.length ≤ 6 → (x14.fmod 18 = 2 → 2 < cs.length) → μ.Part μ' → μ.next ≤ k → μ'.cell k = some (.lst (cs.map cmdD)) → wpS r11__law_unit [some (.lst (ns.map .int)), some (.str n), some (.str p), some (.lst names), some (.tup ps), some (.lst (vs.map keyD)), some (.int mo), some (.obj k), none] μ' O := by
          intro μ' k cs O hO hg hlen h2 hp hk hc
          simp [startE, wpS, wpT, wpE, wpA, wpI, wpG, wpGs, wpOpt, outs, wipeE, ePar, r11__law_unit, e14, e15, binD, cmp_eq_int]
          by_cases h18 : x14.fmod 18 = 2
          · rw [if_pos h18]
            have f15 := fmod_lt (a := x15) (b := 102) (by omega)
            have f15b := fmod_lt (a := x15) (b := 5) (by omega)
            refine ⟨⟨by omega, by omega, ?_⟩, le5, ?_⟩
            · have e1 : (Str.ofString "y").length = 1 := by decide +kernel
              rw [e1]
              omega
            refine ix_pick f15b.1 (by exact f15b.2) (P := strgD) (fun d m => ?_) fun d ⟨z, hz, ed⟩ => ?_
            · simp only [List.mem_cons, List.not_mem_nil, or_false] at m
              rcases m with rfl | rfl | rfl | rfl | rfl
              · exact ⟨_, by decide +kernel, rfl⟩
              · exact ⟨_, by decide +kernel, rfl⟩
              · exact ⟨_, by decide +kernel, rfl⟩
              · exact ⟨_, by decide +kernel, rfl⟩
              · refine ⟨_, ?_, rfl⟩
                have := strg_y ⟨(x15.fmod 102).toNat, by omega⟩
                have e : (99 + x15.fmod 102).toNat = 99 + (x15.fmod 102).toNat := by omega
                rw [e]
                exact this
            subst ed
            have hix : ixN cs.length 2 = some 2 := by
              unfold ixN
              have := h2 h18
              rw [if_pos (by omega), if_pos (by omega)]
              rfl
            simp [startE, wpS, wpT, wpE, wpA, wpI, wpG, wpGs, wpOpt, outs, wipeE, ePar, three_le, hc, hix]
            refine last (cs := cs.set 2 (.prepare n z)) O hO (fun c m => ?_) (by rw [List.length_set]; exact hlen) (part_put hw hp hk) hk (by rw [Sto.put_same, List.map_set]; rfl)
            rcases List.mem_or_eq_of_mem_set m with m | rfl
            · exact hg c m
            · exact ⟨hn, hz⟩
          · rw [if_neg h18]
            exact last O hO hg hlen hp hk hc
        have m18 : ∀ {x : Int} {a : Int}, x.fmod 18 = 2 → x.fmod 6 = 2 := fun {x} {a} h => by
          rw [Int.fmod_eq_emod_of_nonneg _ (by omega)] at h ⊢
          omega
        have st10 : ∀ {μ' : Sto} {k : Nat} {cs : List Cmd} (O : Outs), O.rt = finP μ.next Q → gens cs → cs.length ≤ 6 → 5 ≤ cs.length → μ.Part μ' → μ.next ≤ k → μ'.cell k = some (.lst (cs.map cmdD)) → wpS r10__law_unit [some (.lst (ns.map .int)), some (.str n), some (.str p), some (.lst names), some (.tup ps), some (.lst (vs.map keyD)), some (.int mo), some (.obj k), none] μ' O := by
          intro μ' k cs O hO hg hlen h5 hp hk hc
          simp [startE, wpS, wpT, wpE, wpA, wpI, wpG, wpGs, wpOpt, outs, wipeE, ePar, r10__law_unit, e14, e15, binD, cmp_eq_int]
          by_cases h6 : x14.fmod 6 = 1
          · rw [if_pos h6]
            have f15 := fmod_lt (a := x15) (b := 5) (by omega)
            obtain ⟨j, hj⟩ : ∃ j : Nat, x15.fmod 5 = j := ⟨(x15.fmod 5).toNat, by omega⟩
            rw [hj]
            simp [startE, wpS, wpT, wpE, wpA, wpI, wpG, wpGs, wpOpt, outs, wipeE, ePar, eSlL, l_obj hc, cut_from]
            refine st11 (cs := cs.drop j) O hO (fun c m => hg c (List.mem_of_mem_drop m)) (by rw [List.length_drop]; omega) (fun z => ?_) (part_mk hw hp) (part_nx hp) (by rw [Sto.new_same, List.map_drop])
            have := m18 (a := 0) z
            omega
          · rw [if_neg h6]
            exact st11 O hO hg hlen (fun _ => by omega) hp hk hc
        have hnxt : μ.next ≤ μ.next + 1 := Nat.le_succ _
        let c3 : List Cmd := [.close p, .forget n, .prepare n (S (written ps))]
        let c5 : List Cmd := c3 ++ [.bind p n vs, .run p mo]
        have hg5 : gens c5 := fun c m => by
          simp only [c5, c3, List.cons_append, List.nil_append, List.mem_cons, List.not_mem_nil, or_false] at m
          rcases m with rfl | rfl | rfl | rfl | rfl
          · exact hp
          · exact hn
          · exact ⟨hn, g6⟩
          · exact ⟨hp, hn, hv1, hv2⟩
          · exact ⟨hp, hi0, hi3⟩
        simp [startE, wpS, wpT, wpE, wpA, wpI, wpG, wpGs, wpOpt, outs, wipeE, ePar, r7__law_unit, sp__law_written, two_le, three_le]
        refine ⟨by omega, g3, ?_⟩
        simp [startE, wpS, wpT, wpE, wpA, wpI, wpG, wpGs, wpOpt, outs, wipeE, ePar, r8__law_unit, spTup, sq_lst, le4, two_le, three_le, eAddM, lm_obj (Sto.new_same (μ := μ)), lm_lst]
        refine ⟨by omega, ?_⟩
        have ec : ([D.tup [.str "close", .str p], D.tup [.str "forget", .str n], D.tup [.str "prepare", .str n, strD (written ps)]] ++ [D.tup [.str "bind", .str p, .str n, .tup (vs.map keyD)], D.tup [.str "run", .str p, .int mo]] : List D) = c5.map cmdD := rfl
        have r9 : ∀ {μ' : Sto} {k : Nat} {cs : List D} (O : Outs), O.rt = finP μ.next Q → cs = c5.map cmdD → μ.Part μ' → μ.next ≤ k → μ'.cell k = some (.lst cs) → wpS r9__law_unit [some (.lst (ns.map .int)), some (.str n), some (.str p), some (.lst names), some (.tup ps), some (.lst (vs.map keyD)), some (.int mo), some (.obj k), none] μ' O := by
          rintro μ' k cs O hO rfl hp2 hk hc
          simp [startE, wpS, wpT, wpE, wpA, wpI, wpG, wpGs, wpOpt, outs, wipeE, ePar, r9__law_unit, e14, e15, binD, cmp_eq_int]
          by_cases h6 : x14.fmod 6 = 0
          · rw [if_pos h6]
            simp [startE, wpS, wpT, wpE, wpA, wpI, wpG, wpGs, wpOpt, outs, wipeE, ePar, td_obj hc, three_le]
            rw [app_obj hc (by show 5 < sizeLine; omega)]
            have f15 := fmod_lt (a := x15) (b := 3) (by omega)
            refine st10 (cs := c5 ++ [.run p (x15.fmod 3)]) O hO (fun c m => ?_) (by show 6 ≤ 6; omega) (by show 5 ≤ 6; omega) (part_put hw hp2 hk) hk (by rw [Sto.put_same, List.map_append]; rfl)
            rcases List.mem_append.mp m with m | m
            · exact hg5 c m
            · rw [List.mem_singleton.mp m]
              exact ⟨hp, f15.1, by omega⟩
          · rw [if_neg h6]
            exact st10 O hO hg5 (by show 5 ≤ 6; omega) (by show 5 ≤ 5; omega) hp2 hk hc
        refine r9 _ rfl ec (part_mk hw (part_mk hw (part_self hw))) ?_ Sto.new_same
        show μ.next ≤ μ.next + 1
        omega
      simp [startE, wpS, wpT, wpE, wpA, wpI, wpG, wpGs, wpOpt, outs, wipeE, ePar, r5__law_unit, e12, binD, cmp_eq_int]
      by_cases h9 : x12.fmod 9 = 0
      · rw [if_pos h9]
        have f12 := fmod_lt (a := x12.fdiv 9) (b := 3) (by omega)
        obtain ⟨j, hj⟩ : ∃ j : Nat, (x12.fdiv 9).fmod 3 = j := ⟨((x12.fdiv 9).fmod 3).toNat, by omega⟩
        rw [hj] at f12
        simp [startE, wpS, wpT, wpE, wpA, wpI, wpG, wpGs, wpOpt, outs, wipeE, ePar, slD, l_lst, eMulL, two_le, cut_1, hj]
        refine ⟨cdiv_small (by omega) (by omega), by omega, by omega, ?_⟩
        have eT : (vs.map keyD).tail = (vs.drop 1).map keyD := by rw [List.map_drop, List.drop_one]
        have eR : (List.replicate j [D.int 5, D.str "x"]).flatten = (List.replicate j [(.inl 5 : Key), .inr (Str.ofString "x")]).flatten.map keyD := by
          rw [List.map_flatten, List.map_replicate]
          rfl
        have hR : ∀ v ∈ (List.replicate j [(.inl 5 : Key), .inr (Str.ofString "x")]).flatten, valK v := fun v m => by
          obtain ⟨l, ml, mv⟩ := List.mem_flatten.mp m
          rw [(List.mem_replicate.mp ml).2] at mv
          simp only [List.mem_cons, List.not_mem_nil, or_false] at mv
          rcases mv with rfl | rfl
          · exact isT5
          · exact isTx
        have hRl : (List.replicate j [(.inl 5 : Key), .inr (Str.ofString "x")]).flatten.length ≤ 4 := by
          have : j = 0 ∨ j = 1 ∨ j = 2 := by omega
          rcases this with rfl | rfl | rfl
          · exact Nat.zero_le _
          · exact (by decide : 2 ≤ 4)
          · exact (by decide : 4 ≤ 4)
        rw [eT, eR, lm_lst, lm_lst]
        dsimp only
        generalize (List.replicate j [(.inl 5 : Key), .inr (Str.ofString "x")]).flatten = R at hR hRl ⊢
        refine ⟨by simp only [List.length_map, List.length_drop]; omega, ?_⟩
        have eC : cutD ((vs.drop 1).map keyD ++ R.map keyD) none (some 4) = ((vs.drop 1 ++ R).take 4).map keyD := by
          rw [← List.map_append]
          exact (cut_to _ 4).trans (List.map_take ..).symm
        rw [eC]
        refine rest _ (List.length_take_le _ _) fun v m => ?_
        rcases List.mem_append.mp (List.mem_of_mem_take m) with m | m
        · exact hv2 v (List.mem_of_mem_drop m)
        · exact hR v m
      · rw [if_neg h9]
        exact rest vs hv1 hv2
  · exact h.elim
end M
end
section
namespace M
open PySem PySem.Spec PyProof.Rows L2
open SX (S S_len S_cat)
section
variable {i j : Int} {μ : Sto} {Q : Post}
theorem bin_add_int : binD .Add (.int i) (.int j) μ Q = Q (.int (i + j)) μ := rfl
theorem bin_mul_int : binD .Mult (.int i) (.int j) μ Q = (CMul i j ∧ Q (.int (i * j)) μ) := rfl
end
theorem cmdsD_add (a b : List Cmd) : cmdsD (a ++ b) = .lst (a.map cmdD ++ b.map cmdD) := by
  unfold cmdsD
  rw [List.map_append]
theorem w__law_units : ∀ ds μ Q QX, μ.wf → objBs μ.next ds = true → sp__law_units ds μ Q QX → ds.length = 2 ∧ wpS c__law_units (startE N__law_units ds) μ (outs μ.next Q QX) := by
  intro ds μ Q QX hw ho h
  unfold sp__law_units at h
  split at h
  · rename_i c n0
    obtain ⟨h0, h20, h1⟩ := h
    refine ⟨rfl, ?_⟩
    have := sz1000
    obtain ⟨n, rfl⟩ : ∃ m : Nat, n0 = m := ⟨n0.toNat, by omega⟩
    simp [startE, wpS, wpT, wpE, wpA, wpI, wpG, wpGs, wpOpt, outs, wipeE, ePar, c__law_units, N__law_units, binD, sp__law_row]
    refine ⟨.inl (by omega), by omega, by omega, fun ns hl hb => ?_⟩
    have hl : ns.length = 16 * n := by omega
    simp [startE, wpS, wpT, wpE, wpA, wpI, wpG, wpGs, wpOpt, outs, wipeE, ePar, r1__law_units, r2__law_units]
    refine ⟨by omega, ?_⟩
    refine for_gen (fun i δ μ' => ∃ (cs : List Cmd) (o4 : Option D), gens cs ∧ cs.length ≤ 6 * i ∧ μ' = μ ∧ δ = [some (.int c), some (.int n), some (.lst (ns.map .int)), some (cmdsD cs), o4]) ⟨[], none, (fun c m => by cases m), Nat.zero_le _, rfl, rfl⟩ ?_ ?_
    · rintro i x LW hx hLW δ μ' ⟨cs, o4, hg, hlen, rfl, rfl⟩
      obtain ⟨hi, rfl⟩ := intsD_at hx
      refine ⟨trivial, ?_⟩
      have hcut : cutD (ns.map D.int) (some (16 * (i : Int))) (some (16 * (i : Int) + 16)) = ((ns.take (16 * i + 16)).drop (16 * i)).map D.int := by
        rw [show (16 * (i : Int)) = ((16 * i : Nat) : Int) by omega, show (((16 * i : Nat) : Int) + 16) = ((16 * i + 16 : Nat) : Int) by omega, cut_mid, List.map_drop, List.map_take]
      simp [startE, wpS, wpT, wpE, wpA, wpI, wpG, wpGs, wpOpt, outs, wipeE, ePar, b1__law_units, bin_mul_int, bin_add_int, slD, l_lst, hcut, sp__law_unit]
      refine ⟨.inl (by omega), (ns.take (16 * i + 16)).drop (16 * i), by rw [List.map_drop, List.map_take], ?_, fun x m => hb x (List.mem_of_mem_take (List.mem_of_mem_drop m)), fun cs2 hg2 hl2 => ?_⟩
      · rw [List.length_drop, List.length_take]
        omega
      · unfold cmdsD
        rw [bin_addL]
        refine ⟨by simp only [List.length_map]; omega, ?_⟩
        refine hLW _ _ ⟨cs ++ cs2, _, fun c m => ?_, by rw [List.length_append]; omega, rfl, by rw [cmdsD_add]⟩
        rcases List.mem_append.mp m with m | m
        · exact hg c m
        · exact hg2 c m
    · rintro δ μ' ⟨cs, o4, hg, hlen, rfl, rfl⟩
      refine ⟨trivial, ?_⟩
      simp [startE, wpS, wpT, wpE, wpA, wpI, wpG, wpGs, wpOpt, outs, wipeE, ePar, r3__law_units, cmdsD, slD, l_lst]
      have hcut : cutD (cs.map cmdD) none (some 20) = (cs.take 20).map cmdD := (cut_to _ 20).trans (List.map_take ..).symm
      rw [hcut]
      exact fin_same hw (cmdsD_Bg _ (cs.take 20)) (h1 _ (fun c m => hg c (List.mem_of_mem_take m)) (List.length_take_le _ _))
  · exact h.elim
end M
end
section
namespace M
open PySem PySem.Spec PyProof.Rows L2
structure RpOk (b : Nat) (d : PyData) : Prop where
  s : d.showable = true
  l : d.leavesShort 13 = true
  w : d.bulk ≤ b
theorem RpOk.mono {b c : Nat} {d : PyData} (h : RpOk b d) (hc : b ≤ c) : RpOk c d := ⟨h.s, h.l, Nat.le_trans h.w hc⟩
theorem RpOk.int {i : Int} (h1 : -999999999999 ≤ i) (h2 : i ≤ 999999999999) : RpOk 0 (.int i) := by
  refine ⟨decide_eq_true ?_, decide_eq_true (PyData.shown_int_le2 h1 h2), Nat.zero_le _⟩
  by_cases z : i.natAbs = 0
  · rw [z]
    decide
  · have h3 : i.natAbs < 2 ^ 40 := by
      have : (2 : Nat) ^ 40 = 1099511627776 := by decide
      omega
    have := (Nat.log2_lt z).mpr h3
    omega
theorem RpOk.bl {b : Bool} : RpOk 0 (.bool b) := ⟨rfl, rfl, Nat.zero_le _⟩
theorem RpOk.non : RpOk 0 .none := ⟨rfl, rfl, Nat.zero_le _⟩
theorem RpOk.str {x : Str} {n : Nat} (h : x.length ≤ n) (hc : ∀ c ∈ x.cps.toList, c < 16 ^ 8) : RpOk n (.str x) := ⟨rfl, by
  show (x.cps.toList.all fun c => decide (c < 16 ^ 8)) = true
  rw [List.all_eq_true]
  exact fun c m => decide_eq_true (hc c m), h⟩
theorem rpAll {b : Nat} : ∀ {ds : List D}, (∀ d ∈ ds, RpOk b (pyOf d)) → PyData.showableAll (pyOfs ds) = true ∧ PyData.leavesShortAll 13 (pyOfs ds) = true ∧ PyData.bulkAll (pyOfs ds) ≤ ds.length * (b + 1)
  | [], _ => ⟨rfl, rfl, Nat.zero_le _⟩
  | d :: ds, h => by
    have h1 := h d (List.mem_cons_self ..)
    obtain ⟨a1, a2, a3⟩ := rpAll (ds := ds) fun x m => h x (List.mem_cons_of_mem _ m)
    refine ⟨?_, ?_, ?_⟩
    · show ((pyOf d).showable && PyData.showableAll (pyOfs ds)) = true
      rw [h1.s, a1]
      rfl
    · show ((pyOf d).leavesShort 13 && PyData.leavesShortAll 13 (pyOfs ds)) = true
      rw [h1.l, a2]
      rfl
    · show (pyOf d).bulk + 1 + PyData.bulkAll (pyOfs ds) ≤ (ds.length + 1) * (b + 1)
      rw [Nat.add_mul, Nat.one_mul]
      have := h1.w
      omega
theorem RpOk.lst {b : Nat} {ds : List D} (h : ∀ d ∈ ds, RpOk b (pyOf d)) : RpOk (ds.length * (b + 1)) (pyOf (.lst ds)) := ⟨(rpAll h).1, (rpAll h).2.1, (rpAll h).2.2⟩
theorem RpOk.tup {b : Nat} {ds : List D} (h : ∀ d ∈ ds, RpOk b (pyOf d)) : RpOk (ds.length * (b + 1)) (pyOf (.tup ds)) := ⟨(rpAll h).1, (rpAll h).2.1, (rpAll h).2.2⟩
theorem pureDs_all : ∀ {ds : List D}, pureDs ds = true → ∀ d ∈ ds, pureD d = true
  | [], _, d, m => absurd m List.not_mem_nil
  | x :: ds, h, d, m => by
    have h : (pureD x && pureDs ds) = true := h
    rw [Bool.and_eq_true] at h
    rcases List.mem_cons.mp m with rfl | m
    · exact h.1
    · exact pureDs_all h.2 d m
theorem rsvN_pure {μ : Sto} : ∀ (n : Nat) {d : D}, pureD d = true → rsvN n μ d = d
  | 0, _, _ => by unfold rsvN; rfl
  | n + 1, d, h => by
    have go : ∀ ds : List D, pureDs ds = true → ds.map (rsvN n μ) = ds := fun ds hd => by
      have : ds.map (rsvN n μ) = ds.map id := List.map_congr_left fun x m => rsvN_pure n (pureDs_all hd x m)
      rw [this, List.map_id]
    cases d with
    | tup ds => unfold rsvN; rw [go ds h]
    | lst ds => unfold rsvN; rw [go ds h]
    | scr ds => cases h
    | obj k => cases h
    | _ => unfold rsvN; rfl
theorem rsv_eqOk {μ : Sto} {d : D} (h : eqOk d = true) : rsv μ d = d := rsvN_pure 8 (eqN_ok 12 d h).1
theorem rpr_ap {d : D} {b : Nat} {δ : Env} {μ : Sto} {Q : Post} {E : XPost} (hs : isSq d = true) (he : eqOk d = true) (h : RpOk b (pyOf d)) (hb : b ≤ 1048576) (q : Q (.str (reprOf d)) μ) : eRpr δ [d] μ Q E := by
  have e20 : b ≤ 2 ^ 20 := by
    have : (2 : Nat) ^ 20 = 1048576 := by decide
    omega
  unfold eRpr
  dsimp only
  rw [rsv_eqOk he]
  exact ⟨hs, he, h.s, PyData.shown_fits_bulk (B := 13) (by decide) (by decide) h.l (Nat.le_trans h.w e20), q⟩
end M
end
section
namespace M
open PySem PySem.Spec PyProof.Rows L2
def MeKC (B : Bs) (T : List Addr) (cls : Nat → Addr) (k : Nat) (c : Nat) (m : Str) (ks : List Str) (sp : Spec) : Prop :=
  Cls B.K (cls c) ∧ ∃ (f : Addr) (fd : FuncData) (ps : List Str), Meth B.K (cls c) m f ∧
    FnOk B.P B.w B.K B.mg B.base (L2N.CX B.P B.w) k f fd ps (lift ⟨B.K, T, cls⟩ sp) ∧ KBn B.K fd ps 1 ks (fun us ws => us ++ ws) (fun vs zs => vs ++ zs) ∧ ps.length = ks.length + 1
theorem kw_all {env : PySem.Env} {pos : Pos} : ∀ {kws : List Keyword} {ks : List Str}, kws.map (·.arg) = ks.map some → (backToKw pos (keywordEach kws env)).all (·.1.isSome) = true ∧ (backToKw pos (keywordEach kws env)).any (·.1.isNone) = false ∧ (backToKw pos (keywordEach kws env)).filterMap (·.1) = ks
  | [], [], _ => ⟨rfl, rfl, rfl⟩
  | [], _ :: _, h => by cases h
  | _ :: _, [], h => by cases h
  | ⟨a, v, p⟩ :: r, b :: ks, h => by
    have h1 : a = some b := (List.cons.inj h).1
    have h2 : r.map (·.arg) = ks.map some := (List.cons.inj h).2
    obtain ⟨i1, i2, i3⟩ := kw_all h2
    subst h1
    have e : backToKw pos (keywordEach (⟨some b, v, p⟩ :: r) env) = (some b, do let v ← eval v env; standAt pos; pure v) :: backToKw pos (keywordEach r env) := rfl
    rw [e]
    refine ⟨?_, ?_, ?_⟩
    · rw [List.all_cons, i1]; rfl
    · rw [List.any_cons, i2]; rfl
    · rw [List.filterMap_cons]
      dsimp only
      rw [i3]
section
variable {X : Cx} {T : List Addr} {cls : Nat → Addr} {Wx : WX}
theorem PK.weak {e : List Keyword} {t u : TA} (h : PK X e t) (k : ∀ σ H Q, u σ H Q → t σ H Q) : PK X e u := ⟨fun pos pins s σ H Q I hw => h.run pos pins s σ H Q I (k σ H Q hw)⟩
theorem d_knil : PK X [] (DA (wd X T cls) Wx .nil) :=
  PK.weak pk_nil fun σ H Q h => by
    obtain ⟨S, δ, QM, QX, rfl, R, hE, hw, hq, hx⟩ := h
    simp only [wpA] at hw
    exact hq S [] [] (.refl _) R rfl hw
theorem d_kcons {nm : Option Str} {a : Expr} {kpos : Pos} {kws : List Keyword} {ca cb : IR} (ha : PE X a (DE (wd X T cls) Wx ca)) (hb : PK X kws (DA (wd X T cls) Wx cb)) : PK X (⟨nm, a, kpos⟩ :: kws) (DA (wd X T cls) Wx (.cons ca cb)) :=
  PK.weak (pk_cons ha hb) fun σ H Q h => by
    obtain ⟨S, δ, QM, QX, rfl, R, hE, hw, hq, hx⟩ := h
    simp only [wpA] at hw
    exact ⟨S, δ, _, QX, rfl, R, hE, hw, fun S1 d1 v1 l1 R1 r1 w1 => ⟨S1, δ, _, QX, rfl, R1, hE.mono l1.1, w1, fun S2 ds vs l2 R2 r2 w2 => hq S2 (d1 :: ds) (v1 :: vs) (l1.trans l2) R2 ⟨v1, vs, rfl, r1.mono l2.1, r2⟩ w2, hx.le l1⟩, hx⟩
theorem pk_of : ∀ (c : IR) {kws : List Keyword}, PEs X (wd X T cls) Wx c (kws.map (·.value)) → PK X kws (DA (wd X T cls) Wx c)
  | c, [], h => by
    cases c with
    | nil => exact d_knil
    | cons _ _ => exact (show False from h).elim
    | _ => exact (show False from h).elim
  | c, ⟨nm, e, p⟩ :: r, h => by
    cases c with
    | nil => cases (show e :: r.map (·.value) = [] from h)
    | cons a b =>
      obtain ⟨h1, h2, h3⟩ := h
      exact d_kcons h2 (pk_of b h3)
    | _ => exact (show False from h).elim
theorem d_mkw {o : Expr} {kws : List Keyword} {co ca : IR} {k : Nat} {m : Str} {ks : List Str} {tbl : List (Nat × Spec)} {apos pos : Pos} (hr : Room k X.A) (tk : L2N.Takes X Wx) (h : ∀ c sp, tbl.lookup c = some sp → MeKC (Cx.bs X) T cls k c m ks sp) (ho : PE X o (DE (wd X T cls) Wx co)) (hkw : PK X kws (DA (wd X T cls) Wx ca))
    (hno : isCall o = false) (hks : kws.map (·.arg) = ks.map some) (hlen : kws.length < 29) (hline : (apos.endLine == pos.line) = true) : PE X (.Call (.Attribute o m apos) [] kws pos) (DE (wd X T cls) Wx (.mcl m tbl co ca)) := by
  refine ⟨fun pins s σ H Q I hh => ?_⟩
  obtain ⟨k1, k2, k3⟩ := kw_all (env := X.env) (pos := pos) hks
  have hform : methodCallForm (([] : List Expr).length + kws.length) (backTo pos (starEach [] X.env)) (backToKw pos (keywordEach kws X.env)) = true := by
    unfold methodCallForm
    rw [k1]
    show (true && true && decide _) = true
    rw [Bool.true_and, Bool.true_and]
    refine decide_eq_true ?_
    rw [List.length_nil]
    split <;> omega
  obtain ⟨S, δ, QM, QX, rfl, R, hE, hw, hq, hx⟩ := hh
  simp only [wpE] at hw
  refine own_call (base_of hno) hform hline ?_
  have hd : DE (wd X T cls) Wx co σ S.H fun x H1 => ∃ (S1 : Ss) (j c : Nat) (fs : List (Str × D)) (sp : Spec), H1 = S1.H ∧ x = .ref (S1.ρ j) ∧ S.le S1 ∧ Rl (wd X T cls) S1 ∧ Rep X.K S1.vw (.obj j) x ∧ S1.μ.cell j = some (.ins c fs) ∧ fs.lookup m = none ∧ tbl.lookup c = some sp ∧ wpA ca δ S1.μ (fun ds μ2 => sp (.obj j :: ds) μ2 QM QX) QX := by
    refine ⟨S, δ, _, QX, rfl, R, hE, hw, fun S1 d1 v1 l1 R1 r1 w1 => ?_, hx⟩
    dsimp only at w1
    split at w1
    · rename_i sp e
      obtain ⟨j, c, fs, rfl, e2, e3, e4⟩ := metOf_eq e
      exact ⟨S1, j, c, fs, sp, rfl, r1.2, l1, R1, r1, e2, e3, e4, w1⟩
    · exact w1.elim
  refine thn (ho.run pins s σ S.H _ I hd) fun u s1 ⟨x, H1, I1, rx, S1, j, c, fs, sp, e1, ex, l1, R1, r1, e2, e3, e4, w1⟩ pl => ?_
  subst e1 ex
  obtain rfl : u = Value.ref (S1.ρ j) := rx
  obtain ⟨hc, f, fd, ps, hm, F, hb, hpl⟩ := h c sp e4
  obtain ⟨dx, es2, ei, r2⟩ := R1.ok _ _ e2
  have hl : es2.lookup m = none := by
    have := repP_lookup (f := m) r2
    rw [e3] at this
    exact this
  refine getmeth_ok I1 ei hc hm hl ?_
  have hda : DA (wd X T cls) Wx ca σ S1.H fun vs H2 => ∃ (S2 : Ss) (ds : List D), H2 = S2.H ∧ S1.le S2 ∧ Rl (wd X T cls) S2 ∧ Reps X.K S2.vw ds vs ∧ sp (.obj j :: ds) S2.μ QM QX :=
    ⟨S1, δ, _, QX, rfl, R1, hE.mono l1.1, w1, fun S2 ds vs l2 R2 r3 w2 => ⟨S2, ds, rfl, l2, R2, r3, w2⟩, hx.le l1⟩
  refine PySem.W.callWith_KW0 (first := [.ref (S1.ρ j)]) (h₀ := X.base) I1.ok.mod.kin hm.kp k1 (thn (hkw.run pos pins s1 σ S1.H _ I1 hda) fun us s2 ⟨vs, H2, I2, r, S2, ds, e5, l2, R2, r3, w2⟩ => ⟨I2.kIn, ?_⟩) (by rw [k2]; rfl)
  subst e5
  rw [k3]
  have hsp : lift ⟨X.K, T, cls⟩ sp ([.ref (S1.ρ j)] ++ vs) S2.H Q (WE Wx σ) := ⟨S2, .obj j :: ds, QM, QX, rfl, R2, (show Reps X.K S2.vw (.obj j :: ds) (.ref (S1.ρ j) :: vs) from ⟨_, _, rfl, r1.mono l2.1, r3⟩), w2, hq.le (l1.trans l2), hx.le (l1.trans l2)⟩
  have hl1 := F.len _ _ _ _ hsp
  have hl2 : us.length = ks.length := by
    rw [← r.length]
    rw [List.length_append, List.length_singleton, hpl] at hl1
    omega
  have hv : Vals [V.ref (S1.ρ j)] [Value.ref (S1.ρ j)] := .cons rfl .nil
  refine wpAny_call (codeAny_mono (F.run X.A X.stack s2 S2.H ⟨[Value.ref (S1.ρ j)], ks.zip us⟩ ([Value.ref (S1.ρ j)] ++ us) ([V.ref (S1.ρ j)] ++ vs) Q (WE Wx σ) hr I2.env0 (hb.to s2 _ us I2.kIn rfl hl2) (hb.rel hv r) hsp) fun res s' hres => ?_)
  match res, hres with
  | .ok (.ret _), z => exact I2.after z
  | .ok .next, z => exact z.elim
  | .ok .brk, z => exact z.elim
  | .ok .cont, z => exact z.elim
  | .error e, z => exact L2N.passAt tk σ pins S2.H s2 e s' I2 z
end
def fMkw (m : Str) (ks : List Str) (ca : IR) : XF := fun N sc t e => match e with
  | .Call (.Attribute o a apos) [] kws pos => if a = m ∧ isCall o = false ∧ kws.map (·.arg) = ks.map some ∧ kws.length < 29 ∧ (apos.endLine == pos.line) = true ∧ chkA N ca sc t (kws.map (·.value)) = true then some [o] else none
  | _ => none
def eMkw (m : Str) (tbl : List (Nat × Spec)) (ca : IR) : EvE := fun δ ds μ Q X => match ds with
  | [d] => match metOf m tbl d μ with
    | some sp => wpA ca δ μ (fun ds μ1 => sp (d :: ds) μ1 Q X) X
    | none => False
  | _ => False
section
variable {B : Bs} {T : List Addr} {cls : Nat → Addr} {k : Nat} {cd : Prop}
theorem n_mkw {m : Str} {ks : List Str} {tbl : List (Nat × Spec)} {ca : IR} (h : ∀ c sp, tbl.lookup c = some sp → MeKC B T cls k c m ks sp) (ok : okE B T cls k cd ca) : NodOk B T cls k cd (fMkw m ks ca) (eMkw m tbl ca) := by
  intro X top Wx e es as S hf hp
  unfold fMkw at hf
  split at hf
  · rename_i o a apos kws pos
    split at hf
    · rename_i hc
      obtain ⟨rfl, h1, h2, h3, h4, h5⟩ := hc
      cases hf
      obtain ⟨co, rfl, _, ho⟩ := hp.one
      have hB := S.bs
      subst hB
      have hkw := pk_of ca (sndL ca S ok h5)
      refine PE.weak (d_mkw (apos := apos) (pos := pos) S.g.room S.tk h ho hkw h1 h2 h3 h4) fun σ H Q h => ?_
      exact h
    · cases hf
  · cases hf
end
section
variable {B : Bs} {T : List Addr} {cls : Nat → Addr} {k : Nat}
theorem me_kw {c : Nat} {m : Str} {f : Addr} {fd : FuncData} {ps ks : List Str} {sp : Spec} {j : Nat} (hc : Cls B.K (cls c)) (M : Meth B.K (cls c) m f) (F : FnOk B.P B.w B.K B.mg B.base (L2N.CX B.P B.w) j f fd ps (lift ⟨B.K, T, cls⟩ sp)) (b : KBn B.K fd ps 1 ks (fun us ws => us ++ ws) (fun vs zs => vs ++ zs)) (hl : ps.length = ks.length + 1) :
    ∀ k, j ≤ k → MeKC B T cls k c m ks sp := fun k hk => ⟨hc, f, fd, ps, M, F.mono hk, b, hl⟩
theorem one_mkw {c0 : Nat} {m : Str} {ks : List Str} {sp0 : Spec} (h : MeKC B T cls k c0 m ks sp0) : ∀ c sp, ([(c0, sp0)] : List (Nat × Spec)).lookup c = some sp → MeKC B T cls k c m ks sp := fun c sp e => by
  rw [List.lookup_cons] at e
  cases hc : c == c0 with
  | true =>
    rw [hc] at e
    cases e
    rw [eq_of_beq hc]
    exact h
  | false =>
    rw [hc] at e
    cases e
end
theorem kb_fun {K : PySem.W.Frag} {x qual : Str} {st : Stmt} {f : Addr} {fd : FuncData} {ps ks : List Str} (F : Fun K x qual st f fd)
    (h : ∀ (kV doc pm : Value) (an : Option Addr) (cdv ct : Value) (us ws : List Value), us.length = 1 → ws.length = ks.length → bindArgs (PySem.W.fnOf x qual (defArgs st) (defBody st) (defScope st) .none kV doc pm an cdv ct) ⟨us, ks.zip ws⟩ = pure (ps.zip (us ++ ws))) : KBn K fd ps 1 ks (fun us ws => us ++ ws) (fun vs zs => vs ++ zs) := by
  obtain ⟨oc, od, kV, doc, pm, an, cdv, ct, osl, rfl, lk, hcd⟩ := F.ex
  exact ⟨fun s us ws X l1 l2 => .of_eq (h kV doc pm an cdv ct us ws l1 l2), fun r1 r2 => r1.append r2⟩
theorem kb_funD {K : PySem.W.Frag} {x qual : Str} {params : Arguments} {body : List Stmt} {scope : Scope} {dvs : List V} {f : Addr} {fd : FuncData} {ps ks : List Str} (F : FunD K x qual params body scope dvs [] f fd) (hd : dvs ≠ [])
    (h : ∀ (T : Addr) (kV doc pm : Value) (an : Option Addr) (cdv ct : Value) (us its ws : List Value), us.length = 1 → its.length = dvs.length → ws.length = ks.length →
      ∃ k, bindArgs (PySem.W.fnOf x qual params body scope (.ref T) kV doc pm an cdv ct) ⟨us, ks.zip ws⟩ = seqItems? (.ref T) >>= k ∧ k (some its.toArray) = pure (ps.zip (us ++ ws))) : KBn K fd ps 1 ks (fun us ws => us ++ ws) (fun vs zs => vs ++ zs) := by
  obtain ⟨oc, od, dV, kV, doc, pm, an, cdv, ct, osl, rfl, lk, hcd, hD, hK⟩ := F.ex
  rcases hD with ⟨e, _⟩ | ⟨_, T, o, its, m, rfl, lT, oT, rT⟩
  · exact absurd e hd
  · refine ⟨fun s us ws X l1 l2 => ?_, fun r1 r2 => r1.append r2⟩
    obtain ⟨k, e1, e2⟩ := h T kV doc pm an cdv ct us its ws l1 rT.length.symm l2
    refine BindsTo.of_looks fun M => ?_
    rw [e1]
    exact looks_items X lT oT (.of_pure e2)
end M
end
section
namespace M
open PySem PySem.Spec PyProof.Rows L2
theorem len_ok {xs : List V} (h : xs.length ≤ 12) : xs.length ≤ sizeLine := by
  rw [sizeLine_eq]
  omega
def KRun (B : Bs) (k : Nat) (f : Addr) (fd : FuncData) : Prop := ∀ (A : Around) (outer : List PySem.Env) (s : Shared) (H : Hp) (args : Args) (Q : VK) (p : Addr × Obj) (D : Addr) (j : Nat) (nm : Str), L2H.RoomH k A → L2H.Hot1 A p → L2H.PinOk outer H s p → Env0 B.P B.w B.K B.mg B.base A outer s H → p.2.cls = .ref D → p.2.dict = none →
  KindK B.K B.mg D j → kindNames[j]? = some nm → BindsTo s fd args [("_law_e", .ref p.1)] → (∀ a H', Same H H' → H' a = some (.lst [.str nm]) → Q (.ref a) H') → codeAny (model B.P B.w) A (.call (.ref f) args) (CR (L2N.CX B.P B.w) outer B.P B.w H s Q (fun _ _ _ => False)) s
theorem kinds_run {B : Bs} {k : Nat} {qual : Str} {st : Stmt} {f : Addr} {fd : FuncData} (F : Fun B.K "_law_kinds" qual st f fd) (S : FnScope kindN ["_law_e"] (defScope st)) (hm : B.mg "isinstance" = none) (hmr : B.mg "range" = none) (hc : kindsC (defScope st) (defBody st) = true) : KRun B (k + 1) f fd := by
  intro A outer s H args Q p D j nm hr hot hpin e0 h1 h2 KK hnm hb hQ
  obtain ⟨oc, od, kV, doc, pm, an, cdv, ct, osl, rfl, lk, hcd⟩ := F.ex
  have KX : B.K.In s.heap := e0.mod.kin.keeps fun b o e => (e0.bs b o e).1
  have lim : s.heap.NoLimit := e0.mod.nolimit.keeps fun b o e => (e0.bs b o e).1
  have hkind : ∀ y ∈ (["_law_e"] : List Str).zip [Value.ref p.1], (defScope st).names.lookup y.1 = some .local ∨ ((defScope st).names.lookup y.1 = some .cell ∧ ((cellsFrom (s.heap.objs.size + 1) (defScope st).names []).lookup y.1).isSome = true) := fun ⟨n, v⟩ hy => (S.par n (List.of_mem_zip hy).1).elim .inl fun q => .inr ⟨q, PySem.W.cellsFrom_some _ _ _ (.inl q)⟩
  refine codeAny_call_function hr.depth (KX _ _ lk) rfl S.co S.gen rfl (PySem.W.codeRec_of KX hcd) (hb _ _ _ _ ?_)
  refine wpAny_newFunctionEnv_cells S.kind hkind fun env he s1 x => ?_
  subst he
  refine ⟨lim.keeps x.toInCall.keep, codeAny_func ?_⟩
  have I : Inv (L2H.cxH (L2N.CX B.P B.w) B.P B.w B.K B.mg B.base kindN qual (defScope st) f cdv A outer s H (fun _ _ _ => False) p) [] (L2.start kindN [.ref p.1]) H s1 := L2H.inv_startH S hpin e0 rfl (.cons rfl .nil) x
  obtain ⟨t, ht, hq⟩ := kinds_ps (X := L2H.cxH (L2N.CX B.P B.w) B.P B.w B.K B.mg B.base kindN qual (defScope st) f cdv A outer s H (fun _ _ _ => False) p) KK hnm h1 h2 hot (List.mem_singleton.mpr rfl) rfl (fun _ => rfl) hm hmr hc
  refine wpAny_mono (ht.run [] s1 (L2.start kindN [.ref p.1]) H _ I (hq H Q hQ)) (fun fl s' hs => ?_) fun e s' hs => hs
  have fin : ∀ {σ' : L2.St} {H' : Hp} {v : V} {u : Value}, Inv (L2H.cxH (L2N.CX B.P B.w) B.P B.w B.K B.mg B.base kindN qual (defScope st) f cdv A outer s H (fun _ _ _ => False) p) [] σ' H' s' → RelV v u → Q v H' → CE outer B.P B.w H s Q u s' :=
    fun {σ' H' v u} J rv q => ⟨v, H', J.os, J.bare, J.base, J.hok, rv, q⟩
  cases fl with
  | ret u =>
    obtain ⟨v, σ', H', J, rv, q⟩ := hs
    exact fin J rv q
  | next =>
    obtain ⟨σ', H', J, q⟩ := hs
    exact fin (v := V.non) (u := Value.none) J rfl q
  | brk =>
    obtain ⟨_, _, _, q⟩ := hs
    exact False.elim q
  | cont =>
    obtain ⟨_, _, _, q⟩ := hs
    exact False.elim q
structure KindF (B : Bs) (k : Nat) : Prop where
  ex : ∃ f fd, B.mg "_law_kinds" = some (.ref f) ∧ PySem.W.keepIn B.K (.ref f) = true ∧ KRun B k f fd ∧ Binds B.K fd ["_law_e"] []
section
variable {B : Bs} {k : Nat} {X : Cx}
theorem pe_kinds {i : Nat} {a : Addr} {oe : Obj} {pn : List (Addr × Obj)} {q p pos : Pos} (hB : Cx.bs X = B) (KF : KindF B k) (hr : Room k X.A) (hz : L2N.Zn oe.cls oe.dict oe) (hf : ∃ vs, oe.data = .fields vs) (hN : X.N[i]? = some ("_law_e" : Str)) (hv : visB X.env.scope "_law_e" = true) (hg : glB X.env.scope "_law_kinds" = true) :
    PE (X.suite a ((a, oe) :: pn)) (.Call (.Name "_law_kinds" q) [.Name "_law_e" p] [] pos) (fun σ H Q => ∃ D j nm, oe.cls = .ref D ∧ oe.dict = none ∧ KindK B.K B.mg D j ∧ kindNames[j]? = some nm ∧ σ[i]? = some (some (.ref a)) ∧ ∀ b H', Same H H' → H' b = some (.lst [.str nm]) → Q (.ref b) H') := by
  subst hB
  obtain ⟨f, fd, hm, hk, F, hb⟩ := KF.ex
  refine ⟨fun pins s σ H Q I h => ?_⟩
  obtain ⟨D, j, nm, h1, h2, KK, hnm, hσ, hQ⟩ := h
  refine wpAny_Call_Name_kw (ld_glob (X := X.suite a ((a, oe) :: pn)) I (gl_of (X := X) hg) hm ?_ (by decide))
  have ha := pa_cons (X := X.suite a ((a, oe) :: pn)) (pe_var (X := X.suite a ((a, oe) :: pn)) (pos := p) hN (vis_of hv)) pa_nil
  refine PySem.W.callWith_K (h₀ := X.base) I.ok.mod.kin hk (thn (ha.run pos pins s σ H (fun vs H1 => vs = [.ref a] ∧ H1 = H) I ⟨.ref a, hσ, rfl, rfl⟩) fun us s1 ⟨vs, H1, I1, r, e1, e2⟩ => ⟨I1.kIn, ?_⟩) rfl rfl
  subst e1 e2
  obtain ⟨u, rfl⟩ : ∃ u, us = [u] := by
    cases r with
    | cons r1 r2 =>
      cases r2
      exact ⟨_, rfl⟩
  cases r with
  | cons r1 r2 =>
    obtain rfl : u = Value.ref a := r1
    obtain ⟨vs0, hvs⟩ := hf
    have hot : L2H.Hot1 (X.suite a ((a, oe) :: pn)).A (a, oe) := ⟨rfl, vs0, hvs, hz.2.2 vs0 hvs⟩
    have P1 := I1.pin (a, oe) (List.mem_append_left _ List.mem_cons_self)
    have hpin : L2H.PinOk (X.suite a ((a, oe) :: pn)).stack H1 s1 (a, oe) := ⟨P1.1, P1.2.1, fun hm => (List.mem_cons.mp (I1.stkSub a hm)).elim P1.2.2.1 P1.2.2.2.1, P1.2.2.2.2⟩
    have b := hb s1 [.ref a] I1.kIn rfl
    refine wpAny_call (codeAny_mono (F (X.suite a ((a, oe) :: pn)).A (X.suite a ((a, oe) :: pn)).stack s1 H1 ⟨[.ref a], []⟩ Q (a, oe) D j nm ⟨hr.dp, hr.un⟩ hot hpin I1.env0 h1 h2 KK hnm b hQ) fun r s' hq => ?_)
    cases r with
    | error e =>
      obtain ⟨_, _, _, _, _, _, _, _, _, _, _, _, hE⟩ := (show L2N.CX X.prog X.w X.stack H1 s1 (fun _ _ _ => False) e s' from hq)
      exact hE.elim
    | ok fl =>
      cases fl with
      | ret u => exact I1.after hq
      | next => exact False.elim hq
      | brk => exact False.elim hq
      | cont => exact False.elim hq
theorem pe_isK {i j : Nat} {a : Addr} {oe : Obj} {pn : List (Addr × Obj)} {q p pos p5 p6 p7 : Pos} {z : Str} (hB : Cx.bs X = B) (KF : KindF B k) (hr : Room k X.A) (hz : L2N.Zn oe.cls oe.dict oe) (hf : ∃ vs, oe.data = .fields vs) (hN : X.N[i]? = some ("_law_e" : Str)) (hv : visB X.env.scope "_law_e" = true) (hg : glB X.env.scope "_law_kinds" = true) (hsz : SeqAt.shaped (.list [.str z]) = true) :
    PE (X.suite a ((a, oe) :: pn)) (.Compare (.Call (.Name "_law_kinds" q) [.Name "_law_e" p] [] pos) [.Eq] [.List [.Constant (.str z) j p5] p6] p7) (fun σ H Q => ∃ D j nm, oe.cls = .ref D ∧ oe.dict = none ∧ KindK B.K B.mg D j ∧ kindNames[j]? = some nm ∧ σ[i]? = some (some (.ref a)) ∧ ∀ H', Same H H' → Q (.bl (decide (nm = z))) H') := by
  have hu : (X.suite a ((a, oe) :: pn)).A.units + 64 < cLine := by
    have := hr.un
    show X.A.units + 64 < cLine
    omega
  refine PE.weak (pe_cmpR (op_eqD hu) (pe_kinds hB KF hr hz hf hN hv hg) (pe_lst (pa_cons pe_str pa_nil)) rfl) fun σ H Q h => ?_
  obtain ⟨D, j, nm, h1, h2, KK, hnm, hσ, hQ⟩ := h
  refine ⟨D, j, nm, h1, h2, KK, hnm, hσ, fun b H' e1 e2 => ⟨len_ok (by show (_ : Nat) ≤ 12; simp), fun p hp => ⟨.list [.str nm], .list [.str z], ?_, ?_, ?_, hsz, ?_⟩⟩⟩
  · exact .lst (SqL.of (same_upd hp _ _ e2)) (.cons (.str _) .nil)
  · exact .lst (SqL.of upd_same) (.cons (.str _) .nil)
  · have : ∀ x ∈ kindNames, SeqAt.shaped (.list [.str x]) = true := by decide +kernel
    exact this nm (List.mem_of_getElem? hnm)
  · have e : PyData.eqv (.list [.str nm]) (.list [.str z]) = decide (nm = z) := by
      have := deq_str nm z
      unfold deq pyOf at this
      rw [← this]
      show PyData.eqvAll [.str nm] [.str z] = _
      unfold PyData.eqvAll
      show (PyData.eqv (.str nm) (.str z) && true) = _
      rw [Bool.and_true]
    rw [e]
    exact hQ _ (e1.trans (same_upd hp))
theorem pe_isVE {i : Nat} {a : Addr} {oe : Obj} {pn : List (Addr × Obj)} {p1 p2 p3 p4 : Pos} (hz : L2N.Zn oe.cls oe.dict oe) (hf : ∃ vs, oe.data = .fields vs) (hN : X.N[i]? = some ("_law_e" : Str)) (hv : visB X.env.scope "_law_e" = true) (hg : glB X.env.scope "isinstance" = true) (hgv : glB X.env.scope "ValueError" = true) (hm : X.mg "isinstance" = none) (hmv : X.mg "ValueError" = none) :
    PE (X.suite a ((a, oe) :: pn)) (.Call (.Name "isinstance" p1) [.Name "_law_e" p2, .Name "ValueError" p3] [] p4) (fun σ H Q => ∃ D, oe.cls = .ref D ∧ oe.dict = none ∧ ExcC X.K D ∧ PySem.W.kitOne X.K (.ref D) (.type "ValueError") = some true ∧ σ[i]? = some (some (.ref a)) ∧ Q (.bl true) H) := by
  refine ⟨fun pins s σ H Q I h => ?_⟩
  obtain ⟨D, h1, h2, C, hk, hσ, hQ⟩ := h
  exact (pe_callB (X := X.suite a ((a, oe) :: pn)) (call_isP (X := X.suite a ((a, oe) :: pn)) (pa := (a, oe)) C h1 h2 hf List.mem_cons_self) (gl_of (X := X) hg) hm (show bootBuiltins "isinstance" = some (.builtin "isinstance") by decide +kernel) (pa_cons (pe_var (X := X.suite a ((a, oe) :: pn)) hN (vis_of hv)) (pa_cons (pe_bltn (X := X.suite a ((a, oe) :: pn)) (v := .ty "ValueError") (gl_of (X := X) hgv) hmv (show bootBuiltins "ValueError" = some (.type "ValueError") by decide +kernel) rfl) pa_nil))).run pins s σ H Q I
    ⟨.ref a, hσ, .ty "ValueError", .type "ValueError", true, rfl, fun u r => r, hk, hQ⟩
end
inductive Frm where
  | eq (z : Str) | pair (l z : Str) | pair3 (l z : Str)
def frmD : Frm → Str → D
  | .eq z, nm => .bl (decide (nm = z))
  | .pair l z, nm => .lst [.str l, .bl (decide (nm = z))]
  | .pair3 l z, nm => .lst [.str l, .bl (decide (nm = z))]
def isK (e : Expr) (z : Str) : Bool := match e with
  | .Compare (.Call (.Name f _) [.Name a _] [] _) [.Eq] [.List [c] _] _ => decide (f = "_law_kinds") && (decide (a = "_law_e") && isC c z)
  | _ => false
theorem isK_ok {e : Expr} {z : Str} (h : isK e z = true) : ∃ q p pos j p5 p6 p7, e = .Compare (.Call (.Name "_law_kinds" q) [.Name "_law_e" p] [] pos) [.Eq] [.List [.Constant (.str z) j p5] p6] p7 := by
  unfold isK at h
  split at h
  · simp only [Bool.and_eq_true, decide_eq_true_eq] at h
    obtain ⟨rfl, rfl, h⟩ := h
    obtain ⟨j, p, rfl⟩ := isC_ok h
    exact ⟨_, _, _, _, _, _, _, rfl⟩
  · cases h
def frmB (fm : Frm) (sts : List Stmt) : Bool := match fm, sts with
  | .eq z, [.Return (some e) _] => isK e z && SeqAt.shaped (.list [.str z])
  | .pair l z, [.Return (some (.List [c, e] _)) _] => isC c l && (isK e z && SeqAt.shaped (.list [.str z]))
  | .pair3 l z, [.Return (some (.List [c, .BoolOp .And [v, e] _] _)) _] => isC c l && (isI v "ValueError" && (isK e z && SeqAt.shaped (.list [.str z])))
  | _, _ => false
def RepF : Frm → Str → V → Hp → Hp → Prop
  | .eq z, nm, v, _, _ => v = .bl (decide (nm = z))
  | .pair l z, nm, v, H, H' => ∃ p, v = .ref p ∧ H p = none ∧ H' p = some (.lst [.str l, .bl (decide (nm = z))])
  | .pair3 l z, nm, v, H, H' => ∃ p, v = .ref p ∧ H p = none ∧ H' p = some (.lst [.str l, .bl (decide (nm = z))])
def tsF (B : Bs) (fm : Frm) (i : Nat) (a : Addr) (c : Value) (d : Option Addr) : TS := fun E σ H => ∃ D j nm, c = .ref D ∧ d = none ∧ KindK B.K B.mg D j ∧ kindNames[j]? = some nm ∧ PySem.W.kitOne B.K (.ref D) (.type "ValueError") = some true ∧ (i < σ.length → σ[i]? = some (some (.ref a))) ∧ ∀ v H', Same H H' → RepF fm nm v H H' → E.rt v H'
theorem suite_ok {B : Bs} {k : Nat} {X : Cx} {i : Nat} {a : Addr} {oe : Obj} {pn : List (Addr × Obj)} {fm : Frm} {cl : Value} {d : Option Addr} {sts : List Stmt} (hB : Cx.bs X = B) (KF : KindF B k) (hr : Room k X.A) (hz : L2N.Zn cl d oe) (hf : ∃ vs, oe.data = .fields vs) (hN : X.N[i]? = some ("_law_e" : Str)) (hv : visB X.env.scope "_law_e" = true)
    (hg : glB X.env.scope "_law_kinds" = true) (hgi : glB X.env.scope "isinstance" = true ∨ ∀ l z, fm ≠ .pair3 l z) (hgv : glB X.env.scope "ValueError" = true ∨ ∀ l z, fm ≠ .pair3 l z) (hm : B.mg "isinstance" = none) (hmv : B.mg "ValueError" = none) (h : frmB fm sts = true) : PSs (X.suite a ((a, oe) :: pn)) sts (tsF B fm i a cl d) := by
  obtain ⟨rfl, rfl, hz3⟩ := hz
  have hz : L2N.Zn oe.cls oe.dict oe := ⟨rfl, rfl, hz3⟩
  refine ⟨fun pins s σ H E I q => ?_⟩
  obtain ⟨D, j, nm, h1, h2, KK, hnm, hve, hσ, hQ⟩ := q
  have hσ := hσ (by
    have e : σ.length = X.N.length := I.len
    rw [e]
    exact (List.getElem?_eq_some_iff.mp hN).1)
  unfold frmB at h
  split at h
  · rename_i z e p
    rw [Bool.and_eq_true] at h
    obtain ⟨_, _, _, _, _, _, _, rfl⟩ := isK_ok h.1
    exact (pss_cons (ps_ret (pe_isK hB KF hr hz hf hN hv hg h.2)) pss_nil).run pins s σ H E I ⟨D, j, nm, h1, h2, KK, hnm, hσ, fun H' e => hQ _ H' e rfl⟩
  · rename_i l z c e p p2
    rw [Bool.and_eq_true, Bool.and_eq_true] at h
    obtain ⟨_, _, rfl⟩ := isC_ok h.1
    obtain ⟨_, _, _, _, _, _, _, rfl⟩ := isK_ok h.2.1
    exact (pss_cons (ps_ret (pe_lst (pa_cons pe_str (pa_cons (pe_isK hB KF hr hz hf hN hv hg h.2.2) pa_nil)))) pss_nil).run pins s σ H E I ⟨D, j, nm, h1, h2, KK, hnm, hσ, fun H' e => ⟨len_ok (by show (_ : Nat) ≤ 12; simp), fun p hp => hQ _ _ (e.trans (same_upd hp)) ⟨p, rfl, e.free hp, upd_same⟩⟩⟩
  · rename_i l z c v e p p2 p3
    rw [Bool.and_eq_true, Bool.and_eq_true, Bool.and_eq_true] at h
    obtain ⟨_, _, rfl⟩ := isC_ok h.1
    obtain ⟨_, _, _, _, rfl⟩ := isI_ok h.2.1
    obtain ⟨_, _, _, _, _, _, _, rfl⟩ := isK_ok h.2.2.1
    have g1 := hgi.resolve_right fun z => z _ _ rfl
    have g2 := hgv.resolve_right fun z => z _ _ rfl
    have hm' : X.mg "isinstance" = none := by
      rw [← hB] at hm
      exact hm
    have hmv' : X.mg "ValueError" = none := by
      rw [← hB] at hmv
      exact hmv
    have eK : X.K = B.K := by rw [← hB]
    exact (pss_cons (ps_ret (pe_lst (pa_cons pe_str (pa_cons (pe_and (pe_isVE hz hf hN hv g1 g2 hm' hmv') (pe_one (pe_isK hB KF hr hz hf hN hv hg h.2.2.2))) pa_nil)))) pss_nil).run pins s σ H E I ⟨D, h1, h2, by rw [eK]; exact KK.C, by rw [eK]; exact hve, hσ, true, rfl, by
      rw [if_pos rfl]
      exact ⟨D, j, nm, h1, h2, KK, hnm, hσ, fun H' e => ⟨len_ok (by show (_ : Nat) ≤ 12; simp), fun p hp => hQ _ _ (e.trans (same_upd hp)) ⟨p, rfl, e.free hp, upd_same⟩⟩⟩⟩
  · cases h
end M
end
section
namespace M
open PySem PySem.Spec PyProof.Rows L2
def is3 : Frm → Bool
  | .pair3 _ _ => true
  | _ => false
def fTry (c : IR) (x : Str) (i : Nat) (fm : Frm) : SF := fun N sc st => match st with
  | .Try body [.ExceptHandler (some (.Name y _)) (some n) (b :: bs) _] [] [] _ =>
    if (decide (y = x) && decide (n = "_law_e") && (decide (N[i]? = some n) && decide (sc.names.lookup n = some .local)) && (glB sc x && glB sc "_law_kinds" && ((!is3 fm) || glB sc "isinstance" && glB sc "ValueError")) && (chkB N c sc body && frmB fm (b :: bs))) = true then some [] else none
  | _ => none
def eTry (c : IR) (cn : Nat) (fm : Frm) : EvS := fun δ _ μ O => wpS c δ μ { O with xc := fun x δ' μ' => ∃ nm, 1 ≤ x ∧ kindNames[x - 1]? = some nm ∧ if cn = 0 ∨ cn = x then O.rt (frmD fm nm) μ' else O.xc x δ' μ' }
structure TryF (B : Bs) (cls : Nat → Addr) (cn : Nat) (x : Str) : Prop where
  mg : B.mg x = some (.ref (cls cn))
  nd : (x == ("__debug__" : Str)) = false
  six : ∀ y nm, 1 ≤ y → kindNames[y - 1]? = some nm → KindK B.K B.mg (cls y) (y - 1) ∧ PySem.W.exmOne B.K (.ref (cls y)) (.ref (cls cn)) = some (decide (cn = 0 ∨ cn = y)) ∧ PySem.W.kitOne B.K (.ref (cls y)) (.type "ValueError") = some true
theorem KindF.mono {B : Bs} {j k : Nat} (h : KindF B j) (hk : j ≤ k) : KindF B k := by
  obtain ⟨f, fd, h1, h2, h3, h4⟩ := h.ex
  exact ⟨f, fd, h1, h2, fun A outer s H args Q p D j nm hr => h3 A outer s H args Q p D j nm (hr.mono hk), h4⟩
theorem tryF_of {B : Bs} {cls : Nat → Addr} {cn : Nat} {x : Str} (h : kindAll B.K = true) (h0 : B.mg "EndError" = some (.ref (He.ga B.K "EndError"))) (hg : ∀ y ∈ kindCls, B.mg y = some (.ref (He.ga B.K y))) (c0 : cls 0 = He.ga B.K "EndError") (cs : ∀ j y, kindCls[j]? = some y → cls (j + 1) = He.ga B.K y)
    (hx : (cn = 0 ∧ x = "EndError") ∨ ∃ j, cn = j + 1 ∧ kindCls[j]? = some x) (hd : (x == ("__debug__" : Str)) = false) : TryF B cls cn x := by
  have A := kindAll_ok h h0 hg
  refine ⟨?_, hd, fun y nm h1 h2 => ?_⟩
  · rcases hx with ⟨rfl, rfl⟩ | ⟨j, rfl, e⟩
    · rw [c0]
      exact h0
    · rw [cs j x e]
      exact hg x (List.mem_of_getElem? e)
  · obtain ⟨z, hz⟩ : ∃ z, kindCls[y - 1]? = some z := by
      have : y - 1 < 6 := (List.getElem?_eq_some_iff.mp h2).1
      exact ⟨_, List.getElem?_eq_getElem this⟩
    obtain ⟨a1, a2, a3, a4⟩ := A _ _ hz
    have ey : cls y = He.ga B.K z := by
      have := cs _ _ hz
      rwa [Nat.sub_add_cancel h1] at this
    rw [ey]
    refine ⟨a1, ?_, a2⟩
    rcases hx with ⟨rfl, rfl⟩ | ⟨j, rfl, e⟩
    · rw [c0, a3, decide_eq_true (.inl rfl)]
    · rw [cs j x e, a4 j x e]
      congr 1
      rw [Bool.eq_iff_iff, decide_eq_true_iff, decide_eq_true_iff]
      omega
section
variable {B : Bs} {T : List Addr} {cls : Nat → Addr} {k : Nat} {cd : Prop}
theorem n_try {c : IR} {cn : Nat} {x : Str} {i : Nat} {fm : Frm} (KF : KindF B k) (TF : TryF B cls cn x) (hm : B.mg "isinstance" = none) (hmv : B.mg "ValueError" = none) (ok : okS B T cls k cd c) : SnoOk B T cls k cd (fTry c x i fm) (eTry c cn fm) := by
  intro X Wx st es as S hf hp
  unfold fTry at hf
  split at hf
  · rename_i body y py n b bs pos' pos
    split at hf
    · rename_i hc
      cases hf
      simp only [Bool.and_eq_true, decide_eq_true_eq] at hc
      obtain ⟨⟨⟨⟨rfl, rfl⟩, hi, hl⟩, ⟨g1, g2⟩, g3⟩, hch, hfr⟩ := hc
      obtain rfl : as = .nil := by
        cases as with
        | nil => rfl
        | cons a r => exact False.elim hp
        | _ => exact False.elim hp
      have hB := S.bs
      have hmg : X.mg y = some (.ref (cls cn)) := by
        have := TF.mg
        rw [← hB] at this
        exact this
      have hv : visB X.env.scope "_law_e" = true := by
        unfold visB
        rw [hl]
      have h3 : glB X.env.scope "isinstance" = true ∨ ∀ l z, fm ≠ .pair3 l z := by
        cases fm with
        | pair3 l z =>
          refine .inl ?_
          simp [is3] at g3
          exact g3.1
        | _ => exact .inr fun l z e => by cases e
      have h4 : glB X.env.scope "ValueError" = true ∨ ∀ l z, fm ≠ .pair3 l z := by
        cases fm with
        | pair3 l z =>
          refine .inl ?_
          simp [is3] at g3
          exact g3.2
        | _ => exact .inr fun l z e => by cases e
      obtain ⟨hs1, hs2⟩ := S.g.hs rfl
      have eK : X.K = B.K := by rw [← hB]
      refine PS.weak (L2N.ps_try_as (i := i) (c := .ref (cls cn)) (Wout := Wx) (tb := fun W => DS (wd X T cls) W c) (ts := tsF B fm i) hs1 hs2 S.g.nd hi hl ⟨gl_of g1, TF.nd, .inl hmg⟩ S.tk
        (fun W pn xe tk po => sndB c (X := X.tr pn xe) (cd := cd) ⟨S.bs, ⟨S.g.calm, S.g.nd, S.g.room, S.g.fn, S.g.hs⟩, S.co, tk, S.ct, S.kind, S.lm, S.gu⟩ po ok hch)
        (fun a oe cl d pn hz hf => suite_ok hB KF S.g.room hz hf hi hv g2 h3 h4 hm hmv hfr)) fun E σ H h => ?_
      obtain ⟨S0, δ, O, rfl, R, hE, hw, C⟩ := h
      refine ⟨S0, δ, _, rfl, R, hE, hw, ⟨C.nx, C.rt, C.bk, C.ct, ?_⟩⟩
      rintro S' z δ' σ' l R' E' ⟨nm, hz1, hz2, hz3⟩
      obtain ⟨KK, hex, hve⟩ := TF.six z nm hz1 hz2
      refine ⟨decide (cn = 0 ∨ cn = z), by rw [eK]; exact hex, fun hb a ha => ?_, fun hb => ?_⟩
      · rw [decide_eq_true_eq] at hb
        rw [if_pos hb] at hz3
        refine ⟨cls z, z - 1, nm, rfl, rfl, KK, hz2, hve, fun hlt => ?_, fun v H' hsm hrep => ?_⟩
        · rw [List.length_set] at hlt
          rw [List.getElem?_set_self hlt]
        · obtain ⟨l2, R2⟩ := R'.grow hsm
          refine C.rt { S' with H := H' } (frmD fm nm) v (l.trans l2) R2 ?_ hz3
          have own : ∀ p, S'.H p = none → H' p ≠ none → ∀ o, H' p = some o → hid { S' with H := H' } p = some o := fun p hp _ o ho => hid_some.mpr ⟨ho, fun hown => by
            obtain ⟨u, e⟩ := R'.owned hown
            rw [hp] at e
            cases e⟩
          cases fm with
          | eq w => exact hrep
          | pair l w =>
            obtain ⟨p, rfl, hp, ho⟩ := hrep
            exact ⟨p, _, rfl, own p hp (by rw [ho]; simp) _ ho, _, _, rfl, rfl, _, _, rfl, rfl, rfl⟩
          | pair3 l w =>
            obtain ⟨p, rfl, hp, ho⟩ := hrep
            exact ⟨p, _, rfl, own p hp (by rw [ho]; simp) _ ho, _, _, rfl, rfl, _, _, rfl, rfl, rfl⟩
      · rw [decide_eq_false_iff_not] at hb
        rw [if_neg hb] at hz3
        exact C.xc S' z δ' σ' l R' E' hz3
    · cases hf
  · cases hf
end
end M
end
section
namespace M
open PySem PySem.Spec PyProof.Rows L2
inductive HdN (X : Cx) (n : Str) (i : Nat) (E : Ends) (Wx : WX) : List ExceptHandler → WX → Prop
  | nil : HdN X n i E Wx [] Wx
  | cons {x : Str} {c : Value} {ts : Addr → Value → Option Addr → TS} {b : Stmt} {bs : List Stmt} {p p' : Pos} {hds : List ExceptHandler} {V : WX} (hc : Names X x c)
      (su : ∀ (a : Addr) (ob : Obj) (cl : Value) (dd : Option Addr) (qs : List (Addr × Obj)), L2N.Zn cl dd ob → (∃ vs, ob.data = .fields vs) → PSs (X.suite a ((a, ob) :: qs)) (b :: bs) (ts a cl dd))
      (r : HdN X n i E Wx hds V) : HdN X n i E Wx (.ExceptHandler (some (.Name x p)) (some n) (b :: bs) p' :: hds) (wAs X.K c i ts V E)
section
variable {X : Cx} {n : Str} {i : Nat} {body : List Stmt} {g : ExceptHandler} {gs : List ExceptHandler} {pos : Pos} {tb : WX → TS} {Wx : WX} {V : Ends → WX}
theorem ps_tryN (fs : X.stack = X.env :: X.outer) (fl : X.env.frame = some X.env.locals) (nd : X.N.Nodup) (ni : X.N[i]? = some n) (nl : X.env.kindOf n = some .local) (tk : L2N.Takes X Wx)
    (hb : ∀ (W : WX) (qs : List (Addr × Obj)) (xf : Value → Shared → Prop), L2N.Takes (X.tr qs xf) W → PassesOwn (model X.prog X.w) X.A X.env xf → PSs (X.tr qs xf) body (tb W))
    (hh : ∀ E, HdN X n i E Wx (g :: gs) (V E)) : PS X (.Try body (g :: gs) [] [] pos) (fun E σ H => tb (V E) E σ H) := by
  refine ⟨fun qs u τ G E J hyp => ?_⟩
  have jk := J.ok
  have lc : Loc X.env.scope n := .inl nl
  refine wpAny_Try_except (wpAny_mono ((hb (V E) (X.pn ++ qs) (fun ex u1 => wpAny (model X.prog X.w) X.A (noteFrame ex X.env) (fun _ u2 => wpAny (model X.prog X.w) X.A (setFlight ex none)
    (fun _ u3 => wpAny (model X.prog X.w) X.A (handleBy ex X.env (g :: gs)) (SP X qs E) X.xe u3) X.xe u2) X.xe u1) (fun _ v1 got => ?_) PassesOwn.looking).run [] u τ G E (J.toTry _) hyp) (fun fw v2 fine => ?_) (fun _ _ z => z))
  · obtain ⟨a, Bq, w1, qs1, τ1, G1, cl, dd, rfl, K0, new, above, sky, ha0, eos, ebr, wish⟩ := got
    have K1 : Inv X qs τ1 G1 w1 := K0.ofTry jk
    rw [fs] at sky
    show wpAny (model X.prog X.w) X.A (noteFrame (.ref a) X.env) _ _ _
    refine L2N.Sky.land L2N.Zn.steady (by rw [jk.frames, fs]) fl sky fun k3 at3 above3 => ?_
    have K3 : Inv X qs τ1 G1 { v1 with heap := k3 } := K1.landed new at3.1 (above.trans above3) eos ebr
    obtain ⟨ob3, vs3, ge3, zn3, da3⟩ := at3.there
    have away : a ∉ frs (X.env :: X.outer) := fun hm => by
      obtain ⟨_, ob', ge', off⟩ := at3.2.2.1.mem hm
      rw [ge3] at ge'
      cases ge'
      exact off _ da3
    have offL : a ≠ X.env.locals := fun z => away (List.mem_filterMap.mpr ⟨X.env, List.mem_cons_self, by rw [fl, z]⟩)
    have offF : a ∉ X.fs := fun hm => by
      obtain ⟨en, hen, ok⟩ := List.mem_filterMap.mp hm
      exact away (List.mem_filterMap.mpr ⟨en, List.mem_cons_of_mem _ hen, ok⟩)
    have Q3 := K3.suite ge3 da3 ha0 offL offF
    have lk : PySem.W.Looks (model X.prog X.w) k3 (typeOf (.ref a)) cl := fun _ _ _ _ kk ok => wpAny_typeOf_ref (kk _ _ ge3) (by rw [zn3.1]; exact ok)
    have each : ∀ {hs : List ExceptHandler} {U : WX}, HdN X n i E Wx hs U → U cl dd τ1 G1 → wpAny (model X.prog X.w) X.A (handleBy (.ref a) X.env hs) (SP X qs E) X.xe { v1 with heap := k3 } := by
      intro hs U hk
      induction hk with
      | nil =>
        intro ww
        refine wpAny_handleBy_nil ?_
        obtain ⟨_, _, _, _, _, T, _, _, he, _, hd, h1, _⟩ := id at3
        unfold PySem.passOn
        refine wpAny_bind (wpAny_field he hd h1 ?_)
        rw [if_neg (show ¬ ((Value.ref T == Value.none) = true) from by simp)]
        have out : wpAny (model X.prog X.w) X.A (setFlight (.ref a) X.env.frame) (fun _ v4 => wpAny (model X.prog X.w) X.A (throw (.ref a) : Sem Flow) (SP X qs E) X.xe v4) X.xe { v1 with heap := k3 } := by
          rw [fl]
          exact HandSPX.setFlight_upZ at3 fun k4 at4 above4 => wpAny_throw (tk _ _ ⟨a, Bq, w1, qs, τ1, G1, cl, dd, rfl, K1, new, (above.trans above3).trans above4, .inr (.inr (by rw [fs]; exact at4)), ha0, eos, ebr, ww⟩)
        first
          | exact wpAny_bind (wpAny_pure (wpAny_bind out))
          | exact wpAny_bind out
      | @cons x c ts b bs p p' hds V2 hc su r ih =>
        rintro ⟨yes, hexm, hy, hn⟩
        have lm := PySem.W.exm_one (M := model X.prog X.w) K3.kIn lk hexm
        refine wpAny_handleBy_cons (codeAny_handlers_test ?_) (by intro z; cases z)
        have tst : ∀ {P : Value → Shared → Prop} {F : Value → Shared → Prop}, P c { v1 with heap := k3 } → wpAny (model X.prog X.w) (X.A.mark (some (.ref a))) (eval (.Name x p) X.env) P F { v1 with heap := k3 } := fun {P F} ok => by
          obtain ⟨h1, h2, h3 | ⟨h3, h4, h5⟩⟩ := hc
          · exact ld_glob (X := X.suite a ((a, ob3) :: (X.pn ++ qs))) Q3 h1 h3 ok h2
          · exact ld_blt (X := X.suite a ((a, ob3) :: (X.pn ++ qs))) Q3 h1 h3 h4 ok h5 h2
        refine tst (lm.here ?_)
        cases yes with
        | false => exact ih (hn rfl)
        | true =>
          refine codeAny_handlers_suite_as (HandSPX.lands_againZ at3 fun k4 at4 above4 => ?_)
          have K4 : Inv X qs τ1 G1 { v1 with heap := k4 } := K1.landed new at4.1 ((above.trans above3).trans above4) eos ebr
          obtain ⟨ob4, vs4, ge4, zn4, da4⟩ := at4.there
          have Q4 := K4.suite ge4 da4 ha0 offL offF
          refine store_ok (X := X.suite a ((a, ob4) :: (X.pn ++ qs))) (v := .ref a) Q4 nd ni lc rfl (fun v5 Q5 => ?_) (.inr nl)
          refine wpAny_mono ((su a ob4 cl dd (X.pn ++ qs) zn4 ⟨_, da4⟩).run [] v5 _ G1 _ Q5 (hy rfl a ha0)) (fun fw v6 fine => ?_) (fun _ _ z => z.elim)
          have unb : ∀ {τ6 : L2.St} {G6 : Hp} {P : Shared → Prop}, Inv (X.suite a ((a, ob4) :: (X.pn ++ qs))) [] τ6 G6 v6 → (∀ v7, Inv X qs (τ6.set i none) G6 v7 → P v7) → wpAny (model X.prog X.w) X.A (do bindName X.env n .none; unbindBehindTheSuite X.env n p') (fun _ v7 => P v7) X.xe v6 := fun Q6 ok => gone_ok (Q6.unsuite jk) nd ni nl ok
          cases fw with
          | next => obtain ⟨_, _, Q6, q6⟩ := fine; exact unb Q6 fun _ K7 => ⟨_, _, K7, q6⟩
          | brk => obtain ⟨_, _, Q6, q6⟩ := fine; exact unb Q6 fun _ K7 => ⟨_, _, K7, q6⟩
          | cont => obtain ⟨_, _, Q6, q6⟩ := fine; exact unb Q6 fun _ K7 => ⟨_, _, K7, q6⟩
          | ret _ => obtain ⟨_, _, _, Q6, r6, q6⟩ := fine; exact unb Q6 fun _ K7 => ⟨_, _, _, K7, r6, q6⟩
    exact each (hh E) wish
  · cases fw with
    | next => obtain ⟨_, _, K9, q9⟩ := fine; exact wpAny_execs_nil ⟨_, _, K9.ofTry jk, q9⟩
    | brk => obtain ⟨_, _, K9, q9⟩ := fine; exact ⟨_, _, K9.ofTry jk, q9⟩
    | cont => obtain ⟨_, _, K9, q9⟩ := fine; exact ⟨_, _, K9.ofTry jk, q9⟩
    | ret _ => obtain ⟨_, _, _, K9, r9, q9⟩ := fine; exact ⟨_, _, _, K9.ofTry jk, r9, q9⟩
end
def fTry2 (c : IR) (x1 x2 : Str) (i : Nat) (f1 f2 : Frm) : SF := fun N sc st => match st with
  | .Try body [.ExceptHandler (some (.Name y1 _)) (some n1) (b1 :: bs1) _, .ExceptHandler (some (.Name y2 _)) (some n2) (b2 :: bs2) _] [] [] _ =>
    if ((decide (y1 = x1) && decide (y2 = x2)) && (decide (n1 = "_law_e") && decide (n2 = n1)) && (decide (N[i]? = some n1) && decide (sc.names.lookup n1 = some .local)) &&
      ((glB sc x1 && glB sc x2) && glB sc "_law_kinds" && (glB sc "isinstance" && glB sc "ValueError")) && (chkB N c sc body && (frmB f1 (b1 :: bs1) && frmB f2 (b2 :: bs2)))) = true then some [] else none
  | _ => none
def eTry2 (c : IR) (c1 c2 : Nat) (f1 f2 : Frm) : EvS := fun δ _ μ O => wpS c δ μ { O with xc := fun x δ' μ' => ∃ nm, 1 ≤ x ∧ kindNames[x - 1]? = some nm ∧ if c1 = 0 ∨ c1 = x then O.rt (frmD f1 nm) μ' else if c2 = 0 ∨ c2 = x then O.rt (frmD f2 nm) μ' else O.xc x δ' μ' }
section
variable {B : Bs} {T : List Addr} {cls : Nat → Addr} {k : Nat} {cd : Prop}
theorem n_try2 {c : IR} {c1 c2 : Nat} {x1 x2 : Str} {i : Nat} {f1 f2 : Frm} (KF : KindF B k) (T1 : TryF B cls c1 x1) (T2 : TryF B cls c2 x2) (hm : B.mg "isinstance" = none) (hmv : B.mg "ValueError" = none) (ok : okS B T cls k cd c) : SnoOk B T cls k cd (fTry2 c x1 x2 i f1 f2) (eTry2 c c1 c2 f1 f2) := by
  intro X Wx st es as S hf hp
  unfold fTry2 at hf
  split at hf
  · rename_i body y1 py1 n1 b1 bs1 p1 y2 py2 n2 b2 bs2 p2 pos
    split at hf
    · rename_i hc
      cases hf
      simp only [Bool.and_eq_true, decide_eq_true_eq] at hc
      obtain ⟨⟨⟨⟨⟨rfl, rfl⟩, rfl, rfl⟩, hi, hl⟩, ⟨⟨g1, g1'⟩, g2⟩, g3, g4⟩, hch, hfr, hfr2⟩ := hc
      obtain rfl : as = .nil := by
        cases as with
        | nil => rfl
        | cons a r => exact False.elim hp
        | _ => exact False.elim hp
      have hB := S.bs
      have mg1 : X.mg y1 = some (.ref (cls c1)) := by
        have := T1.mg
        rw [← hB] at this
        exact this
      have mg2 : X.mg y2 = some (.ref (cls c2)) := by
        have := T2.mg
        rw [← hB] at this
        exact this
      have hv : visB X.env.scope "_law_e" = true := by
        unfold visB
        rw [hl]
      obtain ⟨hs1, hs2⟩ := S.g.hs rfl
      have eK : X.K = B.K := by rw [← hB]
      refine PS.weak (ps_tryN (n := "_law_e") (i := i) (Wx := Wx) (tb := fun W => DS (wd X T cls) W c) (V := fun E => wAs X.K (.ref (cls c1)) i (tsF B f1 i) (wAs X.K (.ref (cls c2)) i (tsF B f2 i) Wx E) E) hs1 hs2 S.g.nd hi hl S.tk
        (fun W pn xe tk po => sndB c (X := X.tr pn xe) (cd := cd) ⟨S.bs, ⟨S.g.calm, S.g.nd, S.g.room, S.g.fn, S.g.hs⟩, S.co, tk, S.ct, S.kind, S.lm, S.gu⟩ po ok hch)
        (fun E => .cons ⟨gl_of g1, T1.nd, .inl mg1⟩ (fun a oe cl d pn hz hf => suite_ok hB KF S.g.room hz hf hi hv g2 (.inl g3) (.inl g4) hm hmv hfr)
          (.cons ⟨gl_of g1', T2.nd, .inl mg2⟩ (fun a oe cl d pn hz hf => suite_ok hB KF S.g.room hz hf hi hv g2 (.inl g3) (.inl g4) hm hmv hfr2) .nil))) fun E σ H h => ?_
      obtain ⟨S0, δ, O, rfl, R, hE, hw, C⟩ := h
      refine ⟨S0, δ, _, rfl, R, hE, hw, ⟨C.nx, C.rt, C.bk, C.ct, ?_⟩⟩
      rintro S' z δ' σ' l R' E' ⟨nm, hz1, hz2, hz3⟩
      obtain ⟨KK, hex, hve⟩ := T1.six z nm hz1 hz2
      obtain ⟨_, hex2, _⟩ := T2.six z nm hz1 hz2
      have own : ∀ (H' : Hp) p, S'.H p = none → H' p ≠ none → ∀ o, H' p = some o → hid { S' with H := H' } p = some o := fun H' p hp _ o ho => hid_some.mpr ⟨ho, fun hown => by
        obtain ⟨u, e⟩ := R'.owned hown
        rw [hp] at e
        cases e⟩
      have rets : ∀ (fm : Frm) (v : V) (H' : Hp), O.rt (frmD fm nm) S'.μ → Same S'.H H' → RepF fm nm v S'.H H' → E.rt v H' := fun fm v H' q hsm hrep => by
        obtain ⟨l2, R2⟩ := R'.grow hsm
        refine C.rt { S' with H := H' } (frmD fm nm) v (l.trans l2) R2 ?_ q
        cases fm with
        | eq w => exact hrep
        | pair l w =>
          obtain ⟨p, rfl, hp, ho⟩ := hrep
          exact ⟨p, _, rfl, own H' p hp (by rw [ho]; simp) _ ho, _, _, rfl, rfl, _, _, rfl, rfl, rfl⟩
        | pair3 l w =>
          obtain ⟨p, rfl, hp, ho⟩ := hrep
          exact ⟨p, _, rfl, own H' p hp (by rw [ho]; simp) _ ho, _, _, rfl, rfl, _, _, rfl, rfl, rfl⟩
      refine ⟨decide (c1 = 0 ∨ c1 = z), by rw [eK]; exact hex, fun hb a ha => ?_, fun hb => ⟨decide (c2 = 0 ∨ c2 = z), by rw [eK]; exact hex2, fun hb2 a ha => ?_, fun hb2 => ?_⟩⟩
      · rw [decide_eq_true_eq] at hb
        rw [if_pos hb] at hz3
        refine ⟨cls z, z - 1, nm, rfl, rfl, KK, hz2, hve, fun hlt => ?_, fun v H' hsm hrep => rets f1 v H' hz3 hsm hrep⟩
        rw [List.length_set] at hlt
        rw [List.getElem?_set_self hlt]
      · rw [decide_eq_false_iff_not] at hb
        rw [decide_eq_true_eq] at hb2
        rw [if_neg hb, if_pos hb2] at hz3
        refine ⟨cls z, z - 1, nm, rfl, rfl, KK, hz2, hve, fun hlt => ?_, fun v H' hsm hrep => rets f2 v H' hz3 hsm hrep⟩
        rw [List.length_set] at hlt
        rw [List.getElem?_set_self hlt]
      · rw [decide_eq_false_iff_not] at hb hb2
        rw [if_neg hb, if_neg hb2] at hz3
        exact C.xc S' z δ' σ' l R' E' hz3
    · cases hf
  · cases hf
end
end M
end
section
namespace M
open PySem PySem.Spec PyProof.Rows L2
def strI (i : Int) : Str := toString i
def eRprI : EvE := fun δ ds μ Q E => match ds with
  | [.int i] => i.natAbs.log2 < 1920 ∧ Q (.str (strI i)) μ
  | ds => eRpr δ ds μ Q E
section
variable {B : Bs} {T : List Addr} {cls : Nat → Addr} {k : Nat} {cd : Prop} {X : Cx}
theorem n_rprI (hk : k % 2 = 1) (hm : B.mg "repr" = none) : NodOk B T cls k cd fRpr eRprI := by
  intro X top Wx e es as S hf hp
  unfold fRpr at hf
  split at hf
  · rename_i p a pos
    split at hf
    · rename_i hc
      obtain ⟨hg, hst⟩ := hc
      cases hf
      obtain ⟨ci, rfl, _, hi⟩ := hp.one
      have hB := S.bs
      subst hB
      have both : CallR X (.builtin "repr") fun xs H Q => (∃ i, xs = [.int i] ∧ i.natAbs.log2 < 1920 ∧ Q (.str (strI i)) H) ∨ (∃ S d v, S.H = H ∧ xs = [v] ∧ Rl (wd X T cls) S ∧ Rep X.K S.vw d v ∧ isSq (rsv S.μ d) = true ∧ eqOk (rsv S.μ d) = true ∧ (pyOf (rsv S.μ d)).showable = true ∧ (reprOf (rsv S.μ d)).length ≤ sizeLine ∧ Q (.str (reprOf (rsv S.μ d))) S.H) := by
        intro pins s σ H xs us Q I r h
        rcases h with h | h
        · exact SkE.call_repr_int pins s σ H xs us Q I r h
        · exact call_repr (T := T) (cls := cls) (S.gu hk) S.g.room pins s σ H xs us Q I r h
      refine PE.weak (pe_callB both (gl_of hg) hm (show bootBuiltins "repr" = some (.builtin "repr") by decide +kernel) (pa_of (.cons ci .nil) ⟨hst, hi, rfl⟩) (by decide) (by decide) (star_of hst) (back_of rfl)) fun σ H Q hh => ?_
      obtain ⟨S0, δ, QM, QX, rfl, R, hE, hw, hq, hx⟩ := hh
      simp only [wpE] at hw
      refine ⟨S0, δ, _, QX, rfl, R, hE, hw, fun S1 ds vs l1 R1 r1 w1 => ?_, hx⟩
      unfold eRprI at w1
      dsimp only at w1
      split at w1
      · rename_i i
        obtain ⟨v, rfl, rv⟩ := Reps.inv1 r1
        obtain rfl : v = .int i := rv
        exact .inl ⟨i, rfl, w1.1, hq S1 (.str _) _ l1 R1 rfl w1.2⟩
      · unfold eRpr at w1
        split at w1
        · rename_i d _
          obtain ⟨v, rfl, rv⟩ := Reps.inv1 r1
          obtain ⟨h1, h2, h3, h4, h5⟩ := w1
          exact .inr ⟨S1, d, v, rfl, rfl, R1, rv, h1, h2, h3, h4, hq S1 (.str _) _ l1 R1 rfl h5⟩
        · exact w1.elim
    · cases hf
  · cases hf
end
end M
end
section
namespace M
open PySem PySem.Spec PyProof.Rows L2
open SX (S S_len S_cat)
def runOk (a e : D) : Prop := eqOk e = true ∧ (deq e (.int 0) = true → ∃ x, a = .str x ∧ e = .int 0)
def rowsOk (f : D) (μ : Sto) : Prop := (tyName f μ).isSome = true ∧ ∀ ds, asSeq f μ = some ds → ds.length ≤ 4 → ∀ x ∈ ds, (tyName x μ).isSome = true ∧ ∀ s, x = .str s → s.length ≤ 1000
inductive CmdO (μ : Sto) : D → Option Cmd → Prop
  | prep {a e : D} (ha : anyD a μ) (he : anyD e μ) : CmdO μ (.tup [.str "prepare", a, e]) ((strIf isName a).bind fun x => (strIf isStrg e).map fun y => .prepare x y)
  | bind {a e f : D} (ha : anyD a μ) (he : anyD e μ) (hf : rowsOk f μ) : CmdO μ (.tup [.str "bind", a, e, f]) ((strIf isName a).bind fun x => (strIf isName e).bind fun y => (rowIf f μ).map fun r => .bind x y r)
  | run {a e : D} (ha : anyD a μ) (he : anyD e μ) (hr : runOk a e) : CmdO μ (.tup [.str "run", a, e]) ((strIf isName a).bind fun x => if intIn e 0 1000 = true then some (.run x (intOf e)) else none)
  | forget {a : D} (ha : anyD a μ) : CmdO μ (.tup [.str "forget", a]) ((strIf isName a).map .forget)
  | close {a : D} (ha : anyD a μ) : CmdO μ (.tup [.str "close", a]) ((strIf isName a).map .close)
def sp__law_add11 : Spec := fun ds μ Q E => match ds with
  | [.obj j, d] => ∃ o, CmdO μ d o ∧ addS j μ o Q E
  | _ => False
def sp__law_named11 : Spec := sp__law_add11
def sp__law_told11 : Spec := fun ds μ Q _ => match ds with
  | [.obj j, d] => ∃ o R F, CmdO μ d o ∧ HW μ (cliC j R ++ F) ∧ okL R.L ∧ match o with
    | none => ∀ μ', HW μ' (cliC j R ++ F) → μ.next ≤ μ'.next → Q (.lst [.str "invalid", .bl true]) μ'
    | some c => if R.L.cmds.length = 20 then (∀ μ', HW μ' (cliC j R ++ F) → μ.next ≤ μ'.next → Q (.lst [.str "full", .bl true]) μ') else postL j F μ (addL c R.L) (.int R.L.cmds.length) Q
  | _ => False
def sp__law_synced11 : Spec := fun ds μ Q _ => match ds with
  | [.obj j] => ∃ R F, HW μ (cliC j R ++ F) ∧ okL R.L ∧ if R.L.bats.length = 50 then (∀ μ', HW μ' (cliC j R ++ F) → μ.next ≤ μ'.next → Q (.lst [.str "batches", .bl true]) μ') else postL j F μ (syncL R.L) (.int (R.L.bats.length + 1)) Q
  | _ => False
def sp__law_outcome11 : Spec := fun ds μ Q _ => match ds with
  | [.obj j, d] => ∃ R F, HW μ (cliC j R ++ F) ∧ okL R.L ∧ (tyName d μ).isSome = true ∧ R.L.outs = [] ∧ if intIn d 1 R.L.bats.length = false then (∀ μ', HW μ' (cliC j R ++ F) → μ.next ≤ μ'.next → Q (.lst [.str "none", .bl true]) μ') else Q .non μ
  | _ => False
structure Idle (L : CL) (c h : Nat) : Prop where
  ok : okL L
  ph : L.ph = "closed"
  snd : L.snd = []
  outs : L.outs = []
  ses : L.ses = 0
  c : L.cmds.length = c
  h : L.bats.length = h
def sp__law_fifty11 : Spec := fun ds μ Q _ => match ds with
  | [.obj j] => ∃ R F h, HW μ (cliC j R ++ F) ∧ Idle R.L 0 h ∧ ∀ μ' R' c, HW μ' (cliC j R' ++ F) → Idle R'.L c h → μ.next ≤ μ'.next → Q (.bl true) μ'
  | _ => False
def namesW : List D := [.str "", .str "A", .str "a1", .str "a b", .str "abcdefghi", .str "a'", .non, .int 7]
def wrongL (k : Nat) : List D :=
  (namesW.map fun x => .tup [.str "prepare", x, .str "begin"]) ++ (namesW.map fun x => .tup [.str "bind", x, .str "s", .tup []]) ++
  (namesW.map fun x => .tup [.str "bind", .str "p", x, .tup []]) ++ (namesW.map fun x => .tup [.str "run", x, .int 1]) ++
  (namesW.map fun x => .tup [.str "forget", x]) ++ (namesW.map fun x => .tup [.str "close", x]) ++
  [.tup [.str "prepare", .str "s", .str (repS "x" 201)], .tup [.str "prepare", .str "s", .str "a\n"], .tup [.str "prepare", .str "s", .str "\t"], .tup [.str "prepare", .str "s", .non]] ++
  [.tup [.str "bind", .str "p", .str "s", .tup [.int 1, .int 2, .int 3, .int 4, .int 5]], .tup [.str "bind", .str "p", .str "s", .tup [.int 2147483648]], .tup [.str "bind", .str "p", .str "s", .tup [.str "'"]]] ++
  [.tup [.str "bind", .str "p", .str "s", .tup [.str (repS "y" 41)]], .tup [.str "bind", .str "p", .str "s", .tup [.non]], .tup [.str "bind", .str "p", .str "s", .tup [.bl true]], .tup [.str "bind", .str "p", .str "s", .int 5]] ++
  [.tup [.str "bind", .str "p", .str "s", .tup [.str "a\nb"]], .tup [.str "bind", .str "p", .str "s", .tup [.int 1, .str "\t"]], .tup [.str "bind", .str "p", .str "s", .tup [.int (-2147483649)]]] ++
  [.tup [.str "bind", .str "p", .str "s", .str "ab"], .tup [.str "bind", .str "p", .str "s", .str ""], .tup [.str "prepare", .lst [.str "a"], .str "begin"], .tup [.str "prepare", .str "s", .lst [.str "a"]]] ++
  [.tup [.str "bind", .str "p", .str "s", .obj k], .tup [.str "bind", .lst [.str "p"], .str "s", .tup []], .tup [.str "bind", .str "p", .lst [.str "s"], .tup []], .tup [.str "close", .lst [.str "a"]], .tup [.str "forget", .tup [.str "a"]]] ++
  [.tup [.str "run", .str "p", .int (-1)], .tup [.str "run", .str "p", .int 1001], .tup [.str "run", .str "p", .bl true], .tup [.str "run", .str "p", .str "1"], .tup [.str "bind", .str "p", .str "s", .tup [.tup [.int 1]]]]
def sp__law_wrong11 : Spec := fun ds μ Q _ => match ds with
  | [] => ∃ F, HW μ F ∧ ∀ μ' k, HW μ' ((k, .dct []) :: F) → μ.next ≤ μ'.next → Q (.lst (wrongL k)) μ'
  | _ => False
def sp__law_cell11 : Spec := fun ds μ Q _ => match ds with
  | [.scr d, .int k] => 0 ≤ k ∧ ∃ ns : List Int, d = ns.map .int ∧ Q (.int (ns[k.toNat]?.getD 0)) μ
  | _ => False
def sp_law11 : Spec := fun ds μ Q _ => match ds with
  | [.scr xs] => ∃ ns : List Int, xs = ns.map .int ∧ ns.length ≤ 63 ∧ ∀ μ', Q (.bl true) μ'
  | _ => False
def N__law_named11 : List Str := ["_law_client", "_law_command"]
def r4__law_named11 : IR := .seq (.ret (.nod (fMkw "close" ["portal"] (.cons (.ix (.var 1) (.con (.int 1))) .nil)) (eMkw "close" [(15, sp_Client_close)] (.cons (.ix (.var 1) (.con (.int 1))) .nil)) (.cons (.var 0) .nil))) (.nil)
def r3__law_named11 : IR := .seq (.ifS (.cmp .Eq (.ix (.var 1) (.con (.int 0))) (.con (.str "forget"))) (.seq (.ret (.nod (fMkw "forget" ["name"] (.cons (.ix (.var 1) (.con (.int 1))) .nil)) (eMkw "forget" [(15, sp_Client_forget)] (.cons (.ix (.var 1) (.con (.int 1))) .nil)) (.cons (.var 0) .nil))) (.nil)) (.nil)) r4__law_named11
def r2__law_named11 : IR := .seq (.ifS (.cmp .Eq (.ix (.var 1) (.con (.int 0))) (.con (.str "run"))) (.seq (.ret (.nod (fMkw "run" ["portal", "most"] (.cons (.ix (.var 1) (.con (.int 1))) (.cons (.ix (.var 1) (.con (.int 2))) .nil))) (eMkw "run" [(15, sp_Client_run)] (.cons (.ix (.var 1) (.con (.int 1))) (.cons (.ix (.var 1) (.con (.int 2))) .nil))) (.cons (.var 0) .nil))) (.nil)) (.nil)) r3__law_named11
def r1__law_named11 : IR := .seq (.ifS (.cmp .Eq (.ix (.var 1) (.con (.int 0))) (.con (.str "bind"))) (.seq (.ret (.nod (fMkw "bind" ["portal", "name", "values"] (.cons (.ix (.var 1) (.con (.int 1))) (.cons (.ix (.var 1) (.con (.int 2))) (.cons (.ix (.var 1) (.con (.int 3))) .nil)))) (eMkw "bind" [(15, sp_Client_bind)] (.cons (.ix (.var 1) (.con (.int 1))) (.cons (.ix (.var 1) (.con (.int 2))) (.cons (.ix (.var 1) (.con (.int 3))) .nil)))) (.cons (.var 0) .nil))) (.nil)) (.nil)) r2__law_named11
def c__law_named11 : IR := .seq (.ifS (.cmp .Eq (.ix (.var 1) (.con (.int 0))) (.con (.str "prepare"))) (.seq (.ret (.nod (fMkw "prepare" ["name", "string"] (.cons (.ix (.var 1) (.con (.int 1))) (.cons (.ix (.var 1) (.con (.int 2))) .nil))) (eMkw "prepare" [(15, sp_Client_prepare)] (.cons (.ix (.var 1) (.con (.int 1))) (.cons (.ix (.var 1) (.con (.int 2))) .nil))) (.cons (.var 0) .nil))) (.nil)) (.nil)) r1__law_named11
def N__law_add11 : List Str := ["_law_client", "_law_command"]
def r6__law_add11 : IR := .seq (.ret (.mcl "close" [(15, sp_Client_close)] (.var 0) (.cons (.ix (.var 1) (.con (.int 1))) .nil))) (.nil)
def r5__law_add11 : IR := .seq (.ifS (.cmp .Eq (.ix (.var 1) (.con (.int 0))) (.con (.str "forget"))) (.seq (.ret (.mcl "forget" [(15, sp_Client_forget)] (.var 0) (.cons (.ix (.var 1) (.con (.int 1))) .nil))) (.nil)) (.nil)) r6__law_add11
def r4__law_add11 : IR := .seq (.ifS (.cmp .Eq (.ix (.var 1) (.con (.int 0))) (.con (.str "run"))) (.seq (.ret (.mcl "run" [(15, sp_Client_run)] (.var 0) (.cons (.ix (.var 1) (.con (.int 1))) (.cons (.ix (.var 1) (.con (.int 2))) .nil)))) (.nil)) (.nil)) r5__law_add11
def r3__law_add11 : IR := .seq (.ifS (.tAnd (.cmp .Eq (.ix (.var 1) (.con (.int 0))) (.con (.str "run"))) (.tAnd (.cmp .Eq (.ix (.var 1) (.con (.int 2))) (.con (.int 0))) (.tOne (.cmp .Eq (.cal "len" spLen (.cons (.ix (.var 1) (.con (.int 1))) .nil)) (.con (.int 4)))))) (.seq (.ret (.mcl "run" [(15, (spD sp_Client_run [.int 0]))] (.var 0) (.cons (.ix (.var 1) (.con (.int 1))) .nil))) (.nil)) (.nil)) r4__law_add11
def r2__law_add11 : IR := .seq (.ifS (.cmp .Eq (.ix (.var 1) (.con (.int 0))) (.con (.str "bind"))) (.seq (.ret (.mcl "bind" [(15, sp_Client_bind)] (.var 0) (.cons (.ix (.var 1) (.con (.int 1))) (.cons (.ix (.var 1) (.con (.int 2))) (.cons (.ix (.var 1) (.con (.int 3))) .nil))))) (.nil)) (.nil)) r3__law_add11
def r1__law_add11 : IR := .seq (.ifS (.cmp .Eq (.ix (.var 1) (.con (.int 0))) (.con (.str "prepare"))) (.seq (.ret (.mcl "prepare" [(15, sp_Client_prepare)] (.var 0) (.cons (.ix (.var 1) (.con (.int 1))) (.cons (.ix (.var 1) (.con (.int 2))) .nil)))) (.nil)) (.nil)) r2__law_add11
def c__law_add11 : IR := .seq (.ifS (.tAnd (.tV (.cal "isinstance" spIsi (.cons (.ix (.var 1) (.con (.int 1))) (.cons (.bty "str") .nil)))) (.tOne (.cmp .Eq (.cal "len" spLen (.cons (.ix (.var 1) (.con (.int 1))) .nil)) (.con (.int 8))))) (.seq (.ret (.cal "_law_named" sp__law_named11 (.cons (.var 0) (.cons (.var 1) .nil)))) (.nil)) (.nil)) r1__law_add11
def N__law_told11 : List Str := ["_law_client", "_law_command", "_law_e"]
def b1__law_told11 : IR := .seq (.ret (.cal "_law_add" sp__law_add11 (.cons (.var 0) (.cons (.var 1) .nil)))) (.nil)
def c__law_told11 : IR := .seq (.sno (fTry2 b1__law_told11 "BatchFull" "InvalidCommand" 2 (.pair3 "full" "full") (.pair3 "invalid" "invalid")) (eTry2 b1__law_told11 3 2 (.pair3 "full" "full") (.pair3 "invalid" "invalid")) .nil) (.nil)
def N__law_synced11 : List Str := ["_law_client", "_law_e"]
def b1__law_synced11 : IR := .seq (.ret (.mcl "sync" [(15, sp_Client_sync)] (.var 0) (.nil))) (.nil)
def c__law_synced11 : IR := .seq (.sno (fTry b1__law_synced11 "TooManyBatches" 1 (.pair "batches" "batches")) (eTry b1__law_synced11 4 (.pair "batches" "batches")) .nil) (.nil)
def N__law_outcome11 : List Str := ["_law_client", "_law_number", "_law_e"]
def b1__law_outcome11 : IR := .seq (.ret (.mcl "outcome" [(15, sp_Client_outcome)] (.var 0) (.cons (.var 1) .nil))) (.nil)
def c__law_outcome11 : IR := .seq (.sno (fTry b1__law_outcome11 "NoSuchBatch" 2 (.pair "none" "none")) (eTry b1__law_outcome11 6 (.pair "none" "none")) .nil) (.nil)
def N__law_fifty11 : List Str := ["_law_client"]
def r2__law_fifty11 : IR := .seq (.ret (.andV (.cmp .Eq (.cal "_law_synced" sp__law_synced11 (.cons (.var 0) .nil)) (.lstC (.cons (.con (.str "batches")) (.cons (.con (.bl true)) .nil)))) (.andV (.cmp .Eq (.cal "_law_told" sp__law_told11 (.cons (.var 0) (.cons (.tupC (.cons (.con (.str "forget")) (.cons (.con (.str "b")) .nil))) .nil))) (.con (.int 2))) (.one (.cmp .Eq (.nod (fPrp "handed") (ePrp "handed" [(15, sp_Client_handed)]) (.cons (.var 0) .nil)) (.con (.int 50))))))) (.nil)
def r1__law_fifty11 : IR := .seq (.ifS (.tOr (.cmp .NotEq (.cal "_law_told" sp__law_told11 (.cons (.var 0) (.cons (.tupC (.cons (.con (.str "forget")) (.cons (.con (.str "a")) .nil))) .nil))) (.con (.int 0))) (.tOne (.cmp .NotEq (.cal "_law_told" sp__law_told11 (.cons (.var 0) (.cons (.tupC (.cons (.con (.str "close")) (.cons (.con (.str "a")) .nil))) .nil))) (.con (.int 1))))) (.seq (.ret (.con (.bl false))) (.nil)) (.nil)) r2__law_fifty11
def c__law_fifty11 : IR := .seq (.ifS (.cmp .Lt (.nod (fPrp "handed") (ePrp "handed" [(15, sp_Client_handed)]) (.cons (.var 0) .nil)) (.con (.int 50))) (.seq (.ret (.con (.bl true))) (.nil)) (.nil)) r1__law_fifty11
def N__law_wrong11 : List Str := ["_law_names", "_law_rows", "_law_name_here"]
def r10__law_wrong11 : IR := .seq (.ret (.bin .Add (.var 1) (.lstC (.cons (.tupC (.cons (.con (.str "run")) (.cons (.con (.str "p")) (.cons (.neg (.con (.int 1))) .nil)))) (.cons (.tupC (.cons (.con (.str "run")) (.cons (.con (.str "p")) (.cons (.con (.int 1001)) .nil)))) (.cons (.tupC (.cons (.con (.str "run")) (.cons (.con (.str "p")) (.cons (.con (.bl true)) .nil)))) (.cons (.tupC (.cons (.con (.str "run")) (.cons (.con (.str "p")) (.cons (.con (.str "1")) .nil)))) (.cons (.tupC (.cons (.con (.str "bind")) (.cons (.con (.str "p")) (.cons (.con (.str "s")) (.cons (.tupC (.cons (.tupC (.cons (.con (.int 1)) .nil)) .nil)) .nil))))) .nil)))))))) (.nil)
def r9__law_wrong11 : IR := .seq (.asg (.gN 1) (.bin .Add (.var 1) (.lstC (.cons (.tupC (.cons (.con (.str "bind")) (.cons (.con (.str "p")) (.cons (.con (.str "s")) (.cons (.nod fDnil eDnil .nil) .nil))))) (.cons (.tupC (.cons (.con (.str "bind")) (.cons (.lstC (.cons (.con (.str "p")) .nil)) (.cons (.con (.str "s")) (.cons (.tupC (.nil)) .nil))))) (.cons (.tupC (.cons (.con (.str "bind")) (.cons (.con (.str "p")) (.cons (.lstC (.cons (.con (.str "s")) .nil)) (.cons (.tupC (.nil)) .nil))))) (.cons (.tupC (.cons (.con (.str "close")) (.cons (.lstC (.cons (.con (.str "a")) .nil)) .nil))) (.cons (.tupC (.cons (.con (.str "forget")) (.cons (.tupC (.cons (.con (.str "a")) .nil)) .nil))) .nil)))))))) r10__law_wrong11
def r8__law_wrong11 : IR := .seq (.asg (.gN 1) (.bin .Add (.var 1) (.lstC (.cons (.tupC (.cons (.con (.str "bind")) (.cons (.con (.str "p")) (.cons (.con (.str "s")) (.cons (.con (.str "ab")) .nil))))) (.cons (.tupC (.cons (.con (.str "bind")) (.cons (.con (.str "p")) (.cons (.con (.str "s")) (.cons (.con (.str "")) .nil))))) (.cons (.tupC (.cons (.con (.str "prepare")) (.cons (.lstC (.cons (.con (.str "a")) .nil)) (.cons (.con (.str "begin")) .nil)))) (.cons (.tupC (.cons (.con (.str "prepare")) (.cons (.con (.str "s")) (.cons (.lstC (.cons (.con (.str "a")) .nil)) .nil)))) .nil))))))) r9__law_wrong11
def r7__law_wrong11 : IR := .seq (.asg (.gN 1) (.bin .Add (.var 1) (.lstC (.cons (.tupC (.cons (.con (.str "bind")) (.cons (.con (.str "p")) (.cons (.con (.str "s")) (.cons (.tupC (.cons (.con (.str "a\nb")) .nil)) .nil))))) (.cons (.tupC (.cons (.con (.str "bind")) (.cons (.con (.str "p")) (.cons (.con (.str "s")) (.cons (.tupC (.cons (.con (.int 1)) (.cons (.con (.str "\t")) .nil))) .nil))))) (.cons (.tupC (.cons (.con (.str "bind")) (.cons (.con (.str "p")) (.cons (.con (.str "s")) (.cons (.tupC (.cons (.neg (.con (.int 2147483649))) .nil)) .nil))))) .nil)))))) r8__law_wrong11
def r6__law_wrong11 : IR := .seq (.asg (.gN 1) (.bin .Add (.var 1) (.lstC (.cons (.tupC (.cons (.con (.str "bind")) (.cons (.con (.str "p")) (.cons (.con (.str "s")) (.cons (.tupC (.cons (.bin .Mult (.con (.str "y")) (.con (.int 41))) .nil)) .nil))))) (.cons (.tupC (.cons (.con (.str "bind")) (.cons (.con (.str "p")) (.cons (.con (.str "s")) (.cons (.tupC (.cons (.con (.non)) .nil)) .nil))))) (.cons (.tupC (.cons (.con (.str "bind")) (.cons (.con (.str "p")) (.cons (.con (.str "s")) (.cons (.tupC (.cons (.con (.bl true)) .nil)) .nil))))) (.cons (.tupC (.cons (.con (.str "bind")) (.cons (.con (.str "p")) (.cons (.con (.str "s")) (.cons (.con (.int 5)) .nil))))) .nil))))))) r7__law_wrong11
def r5__law_wrong11 : IR := .seq (.asg (.gN 1) (.bin .Add (.var 1) (.lstC (.cons (.tupC (.cons (.con (.str "bind")) (.cons (.con (.str "p")) (.cons (.con (.str "s")) (.cons (.tupC (.cons (.con (.int 1)) (.cons (.con (.int 2)) (.cons (.con (.int 3)) (.cons (.con (.int 4)) (.cons (.con (.int 5)) .nil)))))) .nil))))) (.cons (.tupC (.cons (.con (.str "bind")) (.cons (.con (.str "p")) (.cons (.con (.str "s")) (.cons (.tupC (.cons (.con (.int 2147483648)) .nil)) .nil))))) (.cons (.tupC (.cons (.con (.str "bind")) (.cons (.con (.str "p")) (.cons (.con (.str "s")) (.cons (.tupC (.cons (.con (.str "'")) .nil)) .nil))))) .nil)))))) r6__law_wrong11
def r4__law_wrong11 : IR := .seq (.asg (.gN 1) (.bin .Add (.var 1) (.lstC (.cons (.tupC (.cons (.con (.str "prepare")) (.cons (.con (.str "s")) (.cons (.bin .Mult (.con (.str "x")) (.con (.int 201))) .nil)))) (.cons (.tupC (.cons (.con (.str "prepare")) (.cons (.con (.str "s")) (.cons (.con (.str "a\n")) .nil)))) (.cons (.tupC (.cons (.con (.str "prepare")) (.cons (.con (.str "s")) (.cons (.con (.str "\t")) .nil)))) (.cons (.tupC (.cons (.con (.str "prepare")) (.cons (.con (.str "s")) (.cons (.con (.non)) .nil)))) .nil))))))) r5__law_wrong11
def r3__law_wrong11 : IR := .seq (.asg (.gN 1) (.bin .Add (.bin .Add (.var 1) (.cpr [("_law_name_here", 2)] (.gN 2) (.itV (.var 0)) (.nop) (.tupC (.cons (.con (.str "forget")) (.cons (.var 2) .nil))))) (.cpr [("_law_name_here", 2)] (.gN 2) (.itV (.var 0)) (.nop) (.tupC (.cons (.con (.str "close")) (.cons (.var 2) .nil)))))) r4__law_wrong11
def r2__law_wrong11 : IR := .seq (.asg (.gN 1) (.bin .Add (.bin .Add (.var 1) (.cpr [("_law_name_here", 2)] (.gN 2) (.itV (.var 0)) (.nop) (.tupC (.cons (.con (.str "bind")) (.cons (.con (.str "p")) (.cons (.var 2) (.cons (.tupC (.nil)) .nil))))))) (.cpr [("_law_name_here", 2)] (.gN 2) (.itV (.var 0)) (.nop) (.tupC (.cons (.con (.str "run")) (.cons (.var 2) (.cons (.con (.int 1)) .nil))))))) r3__law_wrong11
def r1__law_wrong11 : IR := .seq (.asg (.gN 1) (.bin .Add (.cpr [("_law_name_here", 2)] (.gN 2) (.itV (.var 0)) (.nop) (.tupC (.cons (.con (.str "prepare")) (.cons (.var 2) (.cons (.con (.str "begin")) .nil))))) (.cpr [("_law_name_here", 2)] (.gN 2) (.itV (.var 0)) (.nop) (.tupC (.cons (.con (.str "bind")) (.cons (.var 2) (.cons (.con (.str "s")) (.cons (.tupC (.nil)) .nil)))))))) r2__law_wrong11
def c__law_wrong11 : IR := .seq (.asg (.gN 0) (.lstC (.cons (.con (.str "")) (.cons (.con (.str "A")) (.cons (.con (.str "a1")) (.cons (.con (.str "a b")) (.cons (.con (.str "abcdefghi")) (.cons (.con (.str "a'")) (.cons (.con (.non)) (.cons (.con (.int 7)) .nil)))))))))) r1__law_wrong11
def N__law_cell11 : List Str := ["_law_script", "_law_k"]
def c__law_cell11 : IR := .seq (.ifS (.cmp .Lt (.var 1) (.cal "len" spLen (.cons (.var 0) .nil))) (.seq (.ret (.ix (.var 0) (.var 1))) (.nil)) (.nil)) (.seq (.ret (.con (.int 0))) (.nil))
def N_law11 : List Str := ["_law_script", "_law_client", "_law_wrong_here", "_law_count", "_law_handed", "_law_commands", "_law_command", "_law_k", "_law_total", "_law_number", "_law_due"]
def q6b1_law11 : IR := .seq (.ifS (.cmp .Eq (.bin .Mod (.var 9) (.con (.int 23))) (.con (.int 0))) (.seq (.asg (.gN 3) (.con (.int 0))) (.seq (.asg (.gN 4) (.bin .Add (.var 4) (.con (.int 1)))) (.seq (.ifS (.cmp .NotEq (.nod fRpr eRprI (.cons (.cal "_law_synced" sp__law_synced11 (.cons (.var 1) .nil)) .nil)) (.nod fRpr eRprI (.cons (.var 4) .nil))) (.seq (.ret (.con (.bl false))) (.nil)) (.nil)) (.nil)))) (.nil)) (.nil)
def q5b1_law11 : IR := .seq (.asg (.gN 3) (.cal "min" spMin2 (.cons (.con (.int 20)) (.cons (.bin .Add (.var 3) (.con (.int 1))) .nil)))) q6b1_law11
def q4b1_law11 : IR := .seq (.ifS (.tOr (.cmp .NotEq (.nod fRpr eRprI (.cons (.cal "_law_told" sp__law_told11 (.cons (.var 1) (.cons (.var 6) .nil))) .nil)) (.nod fRpr eRprI (.cons (.var 10) .nil))) (.tOr (.cmp .NotEq (.nod (fPrp "phase") (ePrp "phase" [(15, sp_Client_phase)]) (.cons (.var 1) .nil)) (.con (.str "closed"))) (.tOne (.cmp .NotEq (.nod (fPrp "waiting") (ePrp "waiting" [(15, sp_Client_waiting)]) (.cons (.var 1) .nil)) (.con (.int 0)))))) (.seq (.ret (.con (.bl false))) (.nil)) (.nil)) q5b1_law11
def q3b1_law11 : IR := .seq (.ifS (.cmp .Eq (.var 3) (.con (.int 20))) (.seq (.asg (.gN 10) (.lstC (.cons (.con (.str "full")) (.cons (.con (.bl true)) .nil)))) (.nil)) (.nil)) q4b1_law11
def q2b1_law11 : IR := .seq (.asg (.gN 10) (.var 3)) q3b1_law11
def q1b1_law11 : IR := .seq (.ifS (.cmp .NotEq (.cal "_law_told" sp__law_told11 (.cons (.var 1) (.cons (.ix (.var 2) (.bin .Mod (.var 9) (.cal "len" spLen (.cons (.var 2) .nil)))) .nil))) (.lstC (.cons (.con (.str "invalid")) (.cons (.con (.bl true)) .nil)))) (.seq (.ret (.con (.bl false))) (.nil)) (.nil)) q2b1_law11
def b1_law11 : IR := .seq (.asg (.gN 9) (.bin .Add (.bin .Add (.cal "_law_cell" sp__law_cell11 (.cons (.var 0) (.cons (.con (.int 3)) .nil))) (.bin .Mult (.con (.int 7)) (.var 3))) (.var 4))) q1b1_law11
def q2b8_law11 : IR := .seq (.ifS (.tOr (.cmp .NotEq (.cal "_law_synced" sp__law_synced11 (.cons (.var 1) .nil)) (.var 10)) (.tOne (.cmp .NotEq (.nod (fPrp "handed") (ePrp "handed" [(15, sp_Client_handed)]) (.cons (.var 1) .nil)) (.cal "min" spMin2 (.cons (.bin .Add (.var 7) (.con (.int 1))) (.cons (.con (.int 50)) .nil)))))) (.seq (.ret (.con (.bl false))) (.nil)) (.nil)) (.nil)
def q1b8_law11 : IR := .seq (.ifS (.cmp .GtE (.var 7) (.con (.int 50))) (.seq (.asg (.gN 10) (.lstC (.cons (.con (.str "batches")) (.cons (.con (.bl true)) .nil)))) (.nil)) (.nil)) q2b8_law11
def b8_law11 : IR := .seq (.asg (.gN 10) (.bin .Add (.var 7) (.con (.int 1)))) q1b8_law11
def b11_law11 : IR := .seq (.ifS (.cmp .NotEq (.cal "_law_outcome" sp__law_outcome11 (.cons (.var 1) (.cons (.var 9) .nil))) (.lstC (.cons (.con (.str "none")) (.cons (.con (.bl true)) .nil)))) (.seq (.ret (.con (.bl false))) (.nil)) (.nil)) (.nil)
def r11_law11 : IR := .seq (.ret (.andV (.cmp .Eq (.nod (fPrp "received") (ePrp "received" [(15, sp_Client_received)]) (.cons (.var 1) .nil)) (.con (.int 0))) (.one (.cmp .Eq (.nod (fPrp "session") (ePrp "session" [(15, sp_Client_session)]) (.cons (.var 1) .nil)) (.con (.int 0)))))) (.nil)
def r10_law11 : IR := .seq (.ifS (.tOr (.tNot (.tV (.cal "_law_fifty" sp__law_fifty11 (.cons (.var 1) .nil)))) (.tOr (.cmp .IsNot (.cal "_law_outcome" sp__law_outcome11 (.cons (.var 1) (.cons (.con (.int 1)) .nil))) (.con (.non))) (.tOne (.cmp .IsNot (.mcl "outcome" [(15, sp_Client_outcome)] (.var 1) (.cons (.var 8) .nil)) (.con (.non)))))) (.seq (.ret (.con (.bl false))) (.nil)) (.nil)) r11_law11
def r9_law11 : IR := .seq (.fr (.gN 9) (.itV (.lstC (.cons (.con (.int 0)) (.cons (.bin .Add (.var 8) (.con (.int 1))) (.cons (.neg (.con (.int 1))) (.cons (.con (.int 51)) (.cons (.con (.bl true)) (.cons (.con (.non)) (.cons (.con (.str "1")) .nil))))))))) b11_law11) r10_law11
def r8_law11 : IR := .seq (.asg (.gN 8) (.nod (fPrp "handed") (ePrp "handed" [(15, sp_Client_handed)]) (.cons (.var 1) .nil))) r9_law11
def r7_law11 : IR := .seq (.fr (.gN 7) (.itR2 (.var 4) (.bin .Add (.con (.int 47)) (.bin .Mod (.cal "_law_cell" sp__law_cell11 (.cons (.var 0) (.cons (.con (.int 4)) .nil))) (.con (.int 7))))) b8_law11) r8_law11
def r6_law11 : IR := .seq (.fr (.gN 6) (.itV (.var 5)) b1_law11) r7_law11
def r5_law11 : IR := .seq (.asg (.gN 5) (.bin .Add (.var 5) (.lstC (.cons (.tupC (.cons (.con (.str "prepare")) (.cons (.con (.str "s")) (.cons (.bin .Mult (.con (.str "x")) (.bin .Add (.con (.int 99)) (.bin .Mod (.cal "_law_cell" sp__law_cell11 (.cons (.var 0) (.cons (.con (.int 0)) .nil))) (.con (.int 102))))) .nil)))) (.cons (.tupC (.cons (.con (.str "bind")) (.cons (.con (.str "p")) (.cons (.con (.str "s")) (.cons (.lstC (.cons (.con (.int 1)) (.cons (.con (.str "b")) (.cons (.con (.int 3)) (.cons (.con (.str "d")) .nil))))) .nil))))) .nil))))) r6_law11
def r4_law11 : IR := .seq (.asg (.gN 5) (.bin .Add (.bin .Add (.cal "_law_units" sp__law_units (.cons (.cal "_law_cell" sp__law_cell11 (.cons (.var 0) (.cons (.con (.int 0)) .nil))) (.cons (.con (.int 4)) .nil))) (.cal "_law_units" sp__law_units (.cons (.cal "_law_cell" sp__law_cell11 (.cons (.var 0) (.cons (.con (.int 1)) .nil))) (.cons (.con (.int 4)) .nil)))) (.cal "_law_units" sp__law_units (.cons (.cal "_law_cell" sp__law_cell11 (.cons (.var 0) (.cons (.con (.int 2)) .nil))) (.cons (.con (.int 4)) .nil))))) r5_law11
def r3_law11 : IR := .seq (.asg (.gN 4) (.con (.int 0))) r4_law11
def r2_law11 : IR := .seq (.asg (.gN 3) (.con (.int 0))) r3_law11
def r1_law11 : IR := .seq (.asg (.gN 2) (.nod (fCal0 "_law_wrong") (eCal0 sp__law_wrong11) .nil)) r2_law11
def c_law11 : IR := .seq (.asg (.gN 1) (.nod (fNew "Client") (eNew 15 sp_Client___init__) (.nil))) r1_law11
end M
end
section
namespace M
open PySem PySem.Spec PyProof.Rows L2
open SX (S S_len S_cat)
theorem tru_go11 {b : Bool} {μ : Sto} {Q : Bool → Prop} (h : Q b) : truD (.bl b) μ Q := h
theorem ite_no11 {P : Prop} [Decidable P] {a b : Prop} (h : ¬ P) (q : b) : if P then a else b := by rw [if_neg h]; exact q
theorem ite_ye11 {P : Prop} [Decidable P] {a b : Prop} (h : P) (q : a) : if P then a else b := by rw [if_pos h]; exact q
section
variable {μ μ' : Sto} {j : Nat} {R R' : RC} {F : Cells} {δ : Env} {Q : Post} {E : XPost} {O : Outs}
theorem mx_close (h : HW μ (cliC j R ++ F)) : metOf "close" [(15, sp_Client_close)] (.obj j) μ = some sp_Client_close := mc h rfl
theorem mx_forget (h : HW μ (cliC j R ++ F)) : metOf "forget" [(15, sp_Client_forget)] (.obj j) μ = some sp_Client_forget := mc h rfl
theorem mx_prepare (h : HW μ (cliC j R ++ F)) : metOf "prepare" [(15, sp_Client_prepare)] (.obj j) μ = some sp_Client_prepare := mc h rfl
theorem mx_bind (h : HW μ (cliC j R ++ F)) : metOf "bind" [(15, sp_Client_bind)] (.obj j) μ = some sp_Client_bind := mc h rfl
theorem mx_run (h : HW μ (cliC j R ++ F)) : metOf "run" [(15, sp_Client_run)] (.obj j) μ = some sp_Client_run := mc h rfl
theorem mx_run0 (h : HW μ (cliC j R ++ F)) : metOf "run" [(15, spD sp_Client_run [.int 0])] (.obj j) μ = some (spD sp_Client_run [.int 0]) := mc h rfl
theorem mx_sync (h : HW μ (cliC j R ++ F)) : metOf "sync" [(15, sp_Client_sync)] (.obj j) μ = some sp_Client_sync := mc h rfl
theorem mx_outcome (h : HW μ (cliC j R ++ F)) : metOf "outcome" [(15, sp_Client_outcome)] (.obj j) μ = some sp_Client_outcome := mc h rfl
theorem addS_fin {o : Option Cmd} (h : addS j μ o Q E) : addS j μ o (fun v μ' => finP μ.next Q v μ') (fun x μ' => finX μ.next E x μ') := by
  obtain ⟨R, F, hh, hok, h2⟩ := h
  refine ⟨R, F, hh, hok, ?_⟩
  cases o with
  | none => exact fun μ' k n => err_L h2 k n
  | some c =>
    dsimp only at h2 ⊢
    by_cases h20 : R.L.cmds.length = 20
    · rw [if_pos h20] at h2 ⊢
      exact fun μ' k n => err_L h2 k n
    · rw [if_neg h20] at h2 ⊢
      exact fun μ' R' k e n => fin_L h2 k e n rfl
theorem tyStr11 {a : D} (h : (tyName a μ).isSome = true) : (∃ x, a = .str x) ∨ ∃ t, tyName a μ = some t ∧ t ∈ tys ∧ isB t "str" = false := by
  cases a with
  | str x => exact .inl ⟨x, rfl⟩
  | non => exact .inr ⟨_, rfl, by decide, by decide⟩
  | bl b => exact .inr ⟨_, rfl, by decide, by decide⟩
  | int i => exact .inr ⟨_, rfl, by decide, by decide⟩
  | tup ds => exact .inr ⟨_, rfl, by decide, by decide⟩
  | lst ds => exact .inr ⟨_, rfl, by decide, by decide⟩
  | scr ds => exact .inr ⟨_, rfl, by decide, by decide⟩
  | ty n => cases h
  | fn x => cases h
  | obj k =>
    unfold tyName at h ⊢
    dsimp only at h ⊢
    split
    · exact .inr ⟨_, rfl, by decide, by decide⟩
    · exact .inr ⟨_, rfl, by decide, by decide⟩
    · rename_i z1 z2
      split at h
      · exact absurd ‹_› (z1 _)
      · exact absurd ‹_› (z2 _)
      · cases h
end
theorem w__law_named11 : ∀ ds μ Q QX, μ.wf → objBs μ.next ds = true → sp__law_named11 ds μ Q QX → ds.length = 2 ∧ wpS c__law_named11 (startE N__law_named11 ds) μ (outs μ.next Q QX) := by
  intro ds μ Q QX hw ho h
  unfold sp__law_named11 sp__law_add11 at h
  split at h
  · rename_i j d
    obtain ⟨o, hO, h1⟩ := h
    refine ⟨rfl, ?_⟩
    have hsz : sizeLine = 16777216 := sizeLine_eq
    have q := addS_fin h1
    obtain ⟨R, F, hh, _⟩ := h1
    cases hO with
    | prep ha he =>
      simp [startE, wpS, wpT, wpE, wpA, wpI, wpG, wpGs, wpOpt, outs, wipeE, ePar, c__law_named11, N__law_named11, ixt_0, ixt_1, ixt_2, cmp_eq_str, eMkw, mx_prepare hh]
      exact ⟨ha, he, q⟩
    | bind ha he hf =>
      simp [startE, wpS, wpT, wpE, wpA, wpI, wpG, wpGs, wpOpt, outs, wipeE, ePar, c__law_named11, N__law_named11, ixt_0, ixt_1, ixt_2, ixt_3, cmp_eq_str]
      rw [if_neg (by decide)]
      simp [startE, wpS, wpT, wpE, wpA, wpI, wpG, wpGs, wpOpt, outs, wipeE, ePar, r1__law_named11, ixt_0, ixt_1, ixt_2, ixt_3, cmp_eq_str, eMkw, mx_bind hh]
      exact ⟨ha, he, hf.1, hf.2, q⟩
    | run ha he hr =>
      simp [startE, wpS, wpT, wpE, wpA, wpI, wpG, wpGs, wpOpt, outs, wipeE, ePar, c__law_named11, N__law_named11, ixt_0, ixt_1, ixt_2, cmp_eq_str]
      rw [if_neg (by decide)]
      simp [startE, wpS, wpT, wpE, wpA, wpI, wpG, wpGs, wpOpt, outs, wipeE, ePar, r1__law_named11, ixt_0, cmp_eq_str]
      rw [if_neg (by decide)]
      simp [startE, wpS, wpT, wpE, wpA, wpI, wpG, wpGs, wpOpt, outs, wipeE, ePar, r2__law_named11, ixt_0, ixt_1, ixt_2, cmp_eq_str, eMkw, mx_run hh]
      exact ⟨ha, he, q⟩
    | forget ha =>
      simp [startE, wpS, wpT, wpE, wpA, wpI, wpG, wpGs, wpOpt, outs, wipeE, ePar, c__law_named11, N__law_named11, ixt_0, ixt_1, cmp_eq_str]
      rw [if_neg (by decide)]
      simp [startE, wpS, wpT, wpE, wpA, wpI, wpG, wpGs, wpOpt, outs, wipeE, ePar, r1__law_named11, ixt_0, cmp_eq_str]
      rw [if_neg (by decide)]
      simp [startE, wpS, wpT, wpE, wpA, wpI, wpG, wpGs, wpOpt, outs, wipeE, ePar, r2__law_named11, ixt_0, cmp_eq_str]
      rw [if_neg (by decide)]
      simp [startE, wpS, wpT, wpE, wpA, wpI, wpG, wpGs, wpOpt, outs, wipeE, ePar, r3__law_named11, ixt_0, ixt_1, cmp_eq_str, eMkw, mx_forget hh]
      exact ⟨ha, q⟩
    | close ha =>
      simp [startE, wpS, wpT, wpE, wpA, wpI, wpG, wpGs, wpOpt, outs, wipeE, ePar, c__law_named11, N__law_named11, ixt_0, ixt_1, cmp_eq_str]
      rw [if_neg (by decide)]
      simp [startE, wpS, wpT, wpE, wpA, wpI, wpG, wpGs, wpOpt, outs, wipeE, ePar, r1__law_named11, ixt_0, cmp_eq_str]
      rw [if_neg (by decide)]
      simp [startE, wpS, wpT, wpE, wpA, wpI, wpG, wpGs, wpOpt, outs, wipeE, ePar, r2__law_named11, ixt_0, cmp_eq_str]
      rw [if_neg (by decide)]
      simp [startE, wpS, wpT, wpE, wpA, wpI, wpG, wpGs, wpOpt, outs, wipeE, ePar, r3__law_named11, ixt_0, cmp_eq_str]
      rw [if_neg (by decide)]
      simp [startE, wpS, wpT, wpE, wpA, wpI, wpG, wpGs, wpOpt, outs, wipeE, ePar, r4__law_named11, ixt_0, ixt_1, eMkw, mx_close hh]
      exact ⟨ha, q⟩
  · exact h.elim
theorem add11 {μ : Sto} {j : Nat} {d : D} {o : Option Cmd} {R : RC} {F : Cells} {Q : Post} {QX : XPost} (hO : CmdO μ d o) (hh : HW μ (cliC j R ++ F)) (q : addS j μ o (fun v μ' => finP μ.next Q v μ') (fun x μ' => finX μ.next QX x μ')) :
    wpS r1__law_add11 [some (.obj j), some d] μ (outs μ.next Q QX) := by
  have hsz : sizeLine = 16777216 := sizeLine_eq
  cases hO with
  | prep ha he =>
    simp [startE, wpS, wpT, wpE, wpA, wpI, wpG, wpGs, wpOpt, outs, wipeE, ePar, r1__law_add11, ixt_0, ixt_1, ixt_2, cmp_eq_str, mx_prepare hh]
    exact ⟨ha, he, q⟩
  | bind ha he hf =>
    simp [startE, wpS, wpT, wpE, wpA, wpI, wpG, wpGs, wpOpt, outs, wipeE, ePar, r1__law_add11, ixt_0, ixt_1, ixt_2, ixt_3, cmp_eq_str]
    rw [if_neg (by decide)]
    simp [startE, wpS, wpT, wpE, wpA, wpI, wpG, wpGs, wpOpt, outs, wipeE, ePar, r2__law_add11, ixt_0, ixt_1, ixt_2, ixt_3, cmp_eq_str, mx_bind hh]
    exact ⟨ha, he, hf.1, hf.2, q⟩
  | @run a e ha he hr =>
    simp [startE, wpS, wpT, wpE, wpA, wpI, wpG, wpGs, wpOpt, outs, wipeE, ePar, r1__law_add11, ixt_0, ixt_1, ixt_2, cmp_eq_str]
    rw [if_neg (by decide)]
    simp [startE, wpS, wpT, wpE, wpA, wpI, wpG, wpGs, wpOpt, outs, wipeE, ePar, r2__law_add11, ixt_0, cmp_eq_str]
    rw [if_neg (by decide)]
    simp [startE, wpS, wpT, wpE, wpA, wpI, wpG, wpGs, wpOpt, outs, wipeE, ePar, r3__law_add11, ixt_0, ixt_1, ixt_2, cmp_eq_str]
    have last : wpS r4__law_add11 [some (.obj j), some (.tup [.str "run", a, e])] μ (outs μ.next Q QX) := by
      simp [startE, wpS, wpT, wpE, wpA, wpI, wpG, wpGs, wpOpt, outs, wipeE, ePar, r4__law_add11, ixt_0, ixt_1, ixt_2, cmp_eq_str, mx_run hh]
      exact ⟨ha, he, q⟩
    obtain ⟨h1, h2⟩ := hr
    have hdr : drf e μ = e := by
      cases e with
      | obj k => cases h1
      | _ => rfl
    refine ⟨by rw [hdr]; exact h1, rfl, ?_⟩
    rw [hdr, show drf (.int 0) μ = .int 0 from rfl]
    by_cases hz : deq e (.int 0) = true
    · obtain ⟨x, rfl, rfl⟩ := h2 hz
      refine ite_ye11 hz ?_
      have hx := ha.2 x rfl
      simp [startE, wpS, wpT, wpE, wpA, wpI, wpG, wpGs, wpOpt, outs, wipeE, ePar, spLen]
      refine ⟨by omega, ?_⟩
      rw [cmp_eq_int]
      split
      · simp [startE, wpS, wpT, wpE, wpA, wpI, wpG, wpGs, wpOpt, outs, wipeE, ePar, mx_run0 hh]
        exact ⟨ha, ⟨rfl, fun y e => by cases e⟩, q⟩
      · exact last
    · refine ite_no11 hz ?_
      exact last
  | forget ha =>
    simp [startE, wpS, wpT, wpE, wpA, wpI, wpG, wpGs, wpOpt, outs, wipeE, ePar, r1__law_add11, ixt_0, ixt_1, cmp_eq_str]
    rw [if_neg (by decide)]
    simp [startE, wpS, wpT, wpE, wpA, wpI, wpG, wpGs, wpOpt, outs, wipeE, ePar, r2__law_add11, ixt_0, cmp_eq_str]
    rw [if_neg (by decide)]
    simp [startE, wpS, wpT, wpE, wpA, wpI, wpG, wpGs, wpOpt, outs, wipeE, ePar, r3__law_add11, ixt_0, cmp_eq_str]
    rw [if_neg (by decide)]
    try rw [if_neg (by decide)]
    simp [startE, wpS, wpT, wpE, wpA, wpI, wpG, wpGs, wpOpt, outs, wipeE, ePar, r4__law_add11, ixt_0, cmp_eq_str]
    rw [if_neg (by decide)]
    simp [startE, wpS, wpT, wpE, wpA, wpI, wpG, wpGs, wpOpt, outs, wipeE, ePar, r5__law_add11, ixt_0, ixt_1, cmp_eq_str, mx_forget hh]
    exact ⟨ha, q⟩
  | close ha =>
    simp [startE, wpS, wpT, wpE, wpA, wpI, wpG, wpGs, wpOpt, outs, wipeE, ePar, r1__law_add11, ixt_0, ixt_1, cmp_eq_str]
    rw [if_neg (by decide)]
    simp [startE, wpS, wpT, wpE, wpA, wpI, wpG, wpGs, wpOpt, outs, wipeE, ePar, r2__law_add11, ixt_0, cmp_eq_str]
    rw [if_neg (by decide)]
    simp [startE, wpS, wpT, wpE, wpA, wpI, wpG, wpGs, wpOpt, outs, wipeE, ePar, r3__law_add11, ixt_0, cmp_eq_str]
    rw [if_neg (by decide)]
    try rw [if_neg (by decide)]
    simp [startE, wpS, wpT, wpE, wpA, wpI, wpG, wpGs, wpOpt, outs, wipeE, ePar, r4__law_add11, ixt_0, cmp_eq_str]
    rw [if_neg (by decide)]
    simp [startE, wpS, wpT, wpE, wpA, wpI, wpG, wpGs, wpOpt, outs, wipeE, ePar, r5__law_add11, ixt_0, ixt_1, cmp_eq_str]
    rw [if_neg (by decide)]
    simp [startE, wpS, wpT, wpE, wpA, wpI, wpG, wpGs, wpOpt, outs, wipeE, ePar, r6__law_add11, ixt_0, ixt_1, mx_close hh]
    exact ⟨ha, q⟩
theorem cmdO_at1 {μ : Sto} {d : D} {o : Option Cmd} (h : CmdO μ d o) : ∃ a, anyD a μ ∧ ∀ {μ' : Sto} {Q : Post}, ixD d (.int 1) μ' Q = Q a μ' := by
  cases h with
  | prep ha _ => exact ⟨_, ha, fun {μ' Q} => ixt_1⟩
  | bind ha _ _ => exact ⟨_, ha, fun {μ' Q} => ixt_1⟩
  | run ha _ _ => exact ⟨_, ha, fun {μ' Q} => ixt_1⟩
  | forget ha => exact ⟨_, ha, fun {μ' Q} => ixt_1⟩
  | close ha => exact ⟨_, ha, fun {μ' Q} => ixt_1⟩
theorem w__law_add11 : ∀ ds μ Q QX, μ.wf → objBs μ.next ds = true → sp__law_add11 ds μ Q QX → ds.length = 2 ∧ wpS c__law_add11 (startE N__law_add11 ds) μ (outs μ.next Q QX) := by
  intro ds μ Q QX hw ho h
  unfold sp__law_add11 at h
  split at h
  · rename_i j d
    obtain ⟨o, hO, h1⟩ := h
    refine ⟨rfl, ?_⟩
    have hsz : sizeLine = 16777216 := sizeLine_eq
    have q := addS_fin h1
    obtain ⟨R, F, hh, _⟩ := h1
    obtain ⟨a, ha, ea⟩ := cmdO_at1 hO
    show wpS c__law_add11 [some (.obj j), some d] μ (outs μ.next Q QX)
    simp only [startE, wpS, wpT, wpE, wpA, wpI, wpG, wpGs, wpOpt, outs, wipeE, ePar, List.set, List.getElem?_cons_zero, List.getElem?_cons_succ, c__law_add11]
    rw [ea]
    rcases tyStr11 ha.1 with ⟨x, rfl⟩ | ⟨t, ht, htm, hb⟩
    · have e1 : ∀ {E : XPost} {K : Post}, spIsi [.str x, .ty "str"] μ K E = K (.bl true) μ := fun {E K} => by simp (decide := true) [spIsi, tyName, isB, tys]
      rw [e1]
      refine tru_go11 ?_
      rw [if_pos rfl, ea]
      have hx := ha.2 x rfl
      refine ⟨by omega, ?_⟩
      show cmpD .Eq (.int x.length) (.int 8) μ _
      rw [cmp_eq_int]
      split
      · exact ⟨o, hO, q⟩
      · exact add11 hO hh q
    · have e1 : ∀ {E : XPost} {K : Post}, spIsi [a, .ty "str"] μ K E = K (.bl false) μ := fun {E K} => by
        have : ("str" : String) ∈ tys := by decide
        simp only [spIsi, ht, hb, this, true_and]
      rw [e1]
      refine tru_go11 ?_
      rw [if_neg (by decide), if_neg (by decide)]
      exact add11 hO hh q
  · exact h.elim
theorem w__law_told11 : ∀ ds μ Q QX, μ.wf → objBs μ.next ds = true → sp__law_told11 ds μ Q QX → ds.length = 2 ∧ wpS c__law_told11 (startE N__law_told11 ds) μ (outs μ.next Q QX) := by
  intro ds μ Q QX hw ho h
  unfold sp__law_told11 at h
  split at h
  · rename_i j d
    obtain ⟨o, R, F, hO, hh, hok, h1⟩ := h
    refine ⟨rfl, ?_⟩
    have hsz : sizeLine = 16777216 := sizeLine_eq
    show wpS c__law_told11 [some (.obj j), some d, none] μ (outs μ.next Q QX)
    simp only [startE, wpS, wpT, wpE, wpA, wpI, wpG, wpGs, wpOpt, outs, wipeE, ePar, List.set, List.getElem?_cons_zero, List.getElem?_cons_succ, c__law_told11, eTry2, b1__law_told11]
    refine ⟨o, hO, R, F, hh, hok, ?_⟩
    cases o with
    | none =>
      intro μ' k n
      refine ⟨"invalid", by decide, rfl, ?_⟩
      rw [if_neg (by decide), if_pos (by decide)]
      exact fin_all k.wf n rfl (h1 μ' k n)
    | some c =>
      dsimp only at h1 ⊢
      by_cases h20 : R.L.cmds.length = 20
      · rw [if_pos h20] at h1 ⊢
        intro μ' k n
        refine ⟨"full", by decide, rfl, ?_⟩
        rw [if_pos (by decide)]
        exact fin_all k.wf n rfl (h1 μ' k n)
      · rw [if_neg h20] at h1 ⊢
        exact fun μ' R' k e n => fin_L h1 k e n rfl
  · exact h.elim
theorem w__law_synced11 : ∀ ds μ Q QX, μ.wf → objBs μ.next ds = true → sp__law_synced11 ds μ Q QX → ds.length = 1 ∧ wpS c__law_synced11 (startE N__law_synced11 ds) μ (outs μ.next Q QX) := by
  intro ds μ Q QX hw ho h
  unfold sp__law_synced11 at h
  split at h
  · rename_i j
    obtain ⟨R, F, hh, hok, h1⟩ := h
    refine ⟨rfl, ?_⟩
    have hsz : sizeLine = 16777216 := sizeLine_eq
    show wpS c__law_synced11 [some (.obj j), none] μ (outs μ.next Q QX)
    simp only [startE, wpS, wpT, wpE, wpA, wpI, wpG, wpGs, wpOpt, outs, wipeE, ePar, List.set, List.getElem?_cons_zero, List.getElem?_cons_succ, c__law_synced11, eTry, b1__law_synced11, mx_sync hh]
    refine ⟨R, F, hh, hok, ?_⟩
    by_cases h50 : R.L.bats.length = 50
    · rw [if_pos h50] at h1 ⊢
      intro μ' k n
      refine ⟨"batches", by decide, rfl, ?_⟩
      rw [if_pos (by decide)]
      exact fin_all k.wf n rfl (h1 μ' k n)
    · rw [if_neg h50] at h1 ⊢
      exact fun μ' R' k e n => fin_L h1 k e n rfl
  · exact h.elim
theorem w__law_outcome11 : ∀ ds μ Q QX, μ.wf → objBs μ.next ds = true → sp__law_outcome11 ds μ Q QX → ds.length = 2 ∧ wpS c__law_outcome11 (startE N__law_outcome11 ds) μ (outs μ.next Q QX) := by
  intro ds μ Q QX hw ho h
  unfold sp__law_outcome11 at h
  split at h
  · rename_i j d
    obtain ⟨R, F, hh, hok, ht, h0, h1⟩ := h
    refine ⟨rfl, ?_⟩
    have hsz : sizeLine = 16777216 := sizeLine_eq
    show wpS c__law_outcome11 [some (.obj j), some d, none] μ (outs μ.next Q QX)
    simp only [startE, wpS, wpT, wpE, wpA, wpI, wpG, wpGs, wpOpt, outs, wipeE, ePar, List.set, List.getElem?_cons_zero, List.getElem?_cons_succ, c__law_outcome11, eTry, b1__law_outcome11, mx_outcome hh]
    refine ⟨R, F, hh, hok, ht, ?_⟩
    by_cases hb : intIn d 1 R.L.bats.length = false
    · rw [if_pos hb] at h1 ⊢
      intro μ' k n
      refine ⟨"none", by decide, rfl, ?_⟩
      rw [if_pos (by decide)]
      exact fin_all k.wf n rfl (h1 μ' k n)
    · rw [if_neg hb] at h1 ⊢
      rw [h0]
      exact fin_same hw rfl h1
  · exact h.elim
end M
end
section
namespace M
open PySem PySem.Spec PyProof.Rows L2
open SX (S S_len S_cat)
def anyB11 : D → Bool
  | .str x => decide (x.length ≤ 1000)
  | .non | .bl _ | .int _ | .tup _ | .lst _ => true
  | _ => false
theorem anyB11_ok {d : D} (h : anyB11 d = true) (μ : Sto) : anyD d μ := by
  unfold anyB11 at h
  split at h
  · rw [decide_eq_true_eq] at h
    exact ⟨rfl, fun y e => by cases e; omega⟩
  · exact ⟨rfl, fun y e => by cases e⟩
  · exact ⟨rfl, fun y e => by cases e⟩
  · exact ⟨rfl, fun y e => by cases e⟩
  · exact ⟨rfl, fun y e => by cases e⟩
  · exact ⟨rfl, fun y e => by cases e⟩
  · cases h
def seqB11 : D → Option (List D)
  | .tup ds | .lst ds => some ds
  | _ => none
theorem seqB11_ok {f : D} (h : anyB11 f = true) (μ : Sto) : asSeq f μ = seqB11 f := by
  unfold anyB11 at h
  split at h <;> first | rfl | cases h
def rowB11 (f : D) : Option (List Key) := match seqB11 f with
  | some ds => if ds.length ≤ 4 then keysIf ds else none
  | none => none
theorem rowB11_ok {f : D} (h : anyB11 f = true) (μ : Sto) : rowIf f μ = rowB11 f := by
  unfold rowIf rowB11
  rw [seqB11_ok h μ]
  all_goals (cases seqB11 f <;> rfl)
def cmdB11 : D → Option (Option Cmd)
  | .tup [.str w, a] => if anyB11 a = true then (if w = "forget" then some ((strIf isName a).map .forget) else if w = "close" then some ((strIf isName a).map .close) else none) else none
  | .tup [.str w, a, e] => if anyB11 a = true ∧ anyB11 e = true then
      (if w = "prepare" then some ((strIf isName a).bind fun x => (strIf isStrg e).map fun y => .prepare x y)
      else if w = "run" ∧ eqOk e = true ∧ deq e (.int 0) = false then some ((strIf isName a).bind fun x => if intIn e 0 1000 = true then some (.run x (intOf e)) else none) else none) else none
  | .tup [.str w, a, e, f] => if (w = "bind" ∧ anyB11 a = true) ∧ anyB11 e = true ∧ anyB11 f = true ∧ ((seqB11 f).getD []).all anyB11 = true then some ((strIf isName a).bind fun x => (strIf isName e).bind fun y => (rowB11 f).map fun r => .bind x y r) else none
  | _ => none
theorem cmdB11_ok {d : D} {o : Option Cmd} (h : cmdB11 d = some o) (μ : Sto) : CmdO μ d o := by
  unfold cmdB11 at h
  split at h
  · rename_i w a
    split at h
    · rename_i ha
      split at h
      · rename_i hw
        subst hw
        cases h
        exact .forget (anyB11_ok ha μ)
      · split at h
        · rename_i hw
          subst hw
          cases h
          exact .close (anyB11_ok ha μ)
        · cases h
    · cases h
  · rename_i w a e
    split at h
    · rename_i hae
      split at h
      · rename_i hw
        subst hw
        cases h
        exact .prep (anyB11_ok hae.1 μ) (anyB11_ok hae.2 μ)
      · split at h
        · rename_i hw
          obtain ⟨rfl, h1, h2⟩ := hw
          cases h
          exact .run (anyB11_ok hae.1 μ) (anyB11_ok hae.2 μ) ⟨h1, fun z => by rw [h2] at z; cases z⟩
        · cases h
    · cases h
  · rename_i w a e f
    split at h
    · rename_i hc
      obtain ⟨⟨rfl, ha⟩, he, hf, hall⟩ := hc
      cases h
      rw [← rowB11_ok hf μ]
      refine .bind (anyB11_ok ha μ) (anyB11_ok he μ) ⟨(anyB11_ok hf μ).1, fun ds e hl x hx => ?_⟩
      rw [seqB11_ok hf μ] at e
      rw [e] at hall
      have h3 := List.all_eq_true.mp hall x hx
      have h4 := anyB11_ok h3 μ
      refine ⟨h4.1, fun s es => ?_⟩
      subst es
      exact of_decide_eq_true h3
    · cases h
  · cases h
def isObj11 : D → Bool
  | .tup [.str _, .str _, .str _, .obj _] => true
  | _ => false
theorem wrong_all : ((wrongL 0).all fun d => isObj11 d || (match cmdB11 d with | some none => true | _ => false)) = true := by decide +kernel
theorem wrong_one {μ : Sto} {k : Nat} (hk : μ.cell k = some (.dct [])) : ∀ d ∈ wrongL k, CmdO μ d none := by
  intro d m
  have pure : ∀ d ∈ wrongL 0, isObj11 d = false → CmdO μ d none := fun d m hd => by
    have := List.all_eq_true.mp wrong_all d m
    rw [hd, Bool.false_or] at this
    split at this
    · rename_i e
      exact cmdB11_ok e μ
    · cases this
  have hob : CmdO μ (.tup [.str "bind", .str "p", .str "s", .obj k]) none := by
    have e : ((strIf isName (.str "p")).bind fun x => (strIf isName (.str "s")).bind fun y => (rowIf (.obj k) μ).map fun r => Cmd.bind x y r) = none := by
      have : rowIf (.obj k) μ = none := by simp [rowIf, asSeq, asL, hk]
      rw [this]
      cases strIf isName (.str "p") <;> cases strIf isName (.str "s") <;> rfl
    rw [← e]
    refine .bind ⟨rfl, fun y e => by cases e; decide⟩ ⟨rfl, fun y e => by cases e; decide⟩ ⟨by simp [tyName, hk], fun ds e => ?_⟩
    simp [asSeq, asL, hk] at e
  by_cases hd : d = .tup [.str "bind", .str "p", .str "s", .obj k]
  · rw [hd]
    exact hob
  · have m0 : d ∈ wrongL 0 ∧ isObj11 d = false := by
      unfold wrongL at m ⊢
      simp only [List.mem_append, or_assoc] at m ⊢
      rcases m with m | m | m | m | m | m | m | m | m | m | m | m | m
      · refine ⟨.inl m, ?_⟩
        obtain ⟨x, _, rfl⟩ := List.mem_map.mp m
        cases x <;> rfl
      · refine ⟨.inr (.inl m), ?_⟩
        obtain ⟨x, _, rfl⟩ := List.mem_map.mp m
        cases x <;> rfl
      · refine ⟨.inr (.inr (.inl m)), ?_⟩
        obtain ⟨x, _, rfl⟩ := List.mem_map.mp m
        cases x <;> rfl
      · refine ⟨.inr (.inr (.inr (.inl m))), ?_⟩
        obtain ⟨x, _, rfl⟩ := List.mem_map.mp m
        cases x <;> rfl
      · refine ⟨.inr (.inr (.inr (.inr (.inl m)))), ?_⟩
        obtain ⟨x, _, rfl⟩ := List.mem_map.mp m
        cases x <;> rfl
      · refine ⟨.inr (.inr (.inr (.inr (.inr (.inl m))))), ?_⟩
        obtain ⟨x, _, rfl⟩ := List.mem_map.mp m
        cases x <;> rfl
      · refine ⟨.inr (.inr (.inr (.inr (.inr (.inr (.inl m)))))), ?_⟩
        simp only [List.mem_cons, List.not_mem_nil, or_false] at m
        rcases m with rfl | rfl | rfl | rfl <;> rfl
      · refine ⟨.inr (.inr (.inr (.inr (.inr (.inr (.inr (.inl m))))))), ?_⟩
        simp only [List.mem_cons, List.not_mem_nil, or_false] at m
        rcases m with rfl | rfl | rfl <;> rfl
      · refine ⟨.inr (.inr (.inr (.inr (.inr (.inr (.inr (.inr (.inl m)))))))), ?_⟩
        simp only [List.mem_cons, List.not_mem_nil, or_false] at m
        rcases m with rfl | rfl | rfl | rfl <;> rfl
      · refine ⟨.inr (.inr (.inr (.inr (.inr (.inr (.inr (.inr (.inr (.inl m))))))))), ?_⟩
        simp only [List.mem_cons, List.not_mem_nil, or_false] at m
        rcases m with rfl | rfl | rfl <;> rfl
      · refine ⟨.inr (.inr (.inr (.inr (.inr (.inr (.inr (.inr (.inr (.inr (.inl m)))))))))), ?_⟩
        simp only [List.mem_cons, List.not_mem_nil, or_false] at m
        rcases m with rfl | rfl | rfl | rfl <;> rfl
      · simp only [List.mem_cons, List.not_mem_nil, or_false] at m
        rcases m with rfl | m
        · exact absurd rfl hd
        · refine ⟨.inr (.inr (.inr (.inr (.inr (.inr (.inr (.inr (.inr (.inr (.inr (.inl (by simp [m])))))))))))), ?_⟩
          rcases m with rfl | rfl | rfl | rfl <;> rfl
      · refine ⟨.inr (.inr (.inr (.inr (.inr (.inr (.inr (.inr (.inr (.inr (.inr (.inr m))))))))))), ?_⟩
        simp only [List.mem_cons, List.not_mem_nil, or_false] at m
        rcases m with rfl | rfl | rfl | rfl | rfl <;> rfl
    exact pure d m0.1 m0.2
theorem namesW_at {g f : D → D} {turn : D → Sto → (Option D → Sto → Prop) → Prop} {gd : Sto → Prop} {fin : List D → Sto → Prop} {μ : Sto} (hg : gd μ) (ht : ∀ x, ∀ N : Option D → Sto → Prop, N (some (f x)) μ → turn x μ N) (hf : fin (namesW.map f) μ) : loopC turn gd fin namesW [] μ :=
  loopC_map f hg (fun x _ N hN => ht x N hN) (by rw [sizeLine_eq]; decide) hf
theorem w__law_wrong11 : ∀ ds μ Q QX, μ.wf → objBs μ.next ds = true → sp__law_wrong11 ds μ Q QX → ds.length = 0 ∧ wpS c__law_wrong11 (startE N__law_wrong11 ds) μ (outs μ.next Q QX) := by
  intro ds μ Q QX hw ho h
  unfold sp__law_wrong11 at h
  split at h
  · obtain ⟨F, hF, h1⟩ := h
    refine ⟨rfl, ?_⟩
    have hsz : sizeLine = 16777216 := sizeLine_eq
    have le1 : 1 ≤ sizeLine := by omega
    have le2 : 2 ≤ sizeLine := by omega
    have le3 : 3 ≤ sizeLine := by omega
    have le4 : 4 ≤ sizeLine := by omega
    have le5 : 5 ≤ sizeLine := by omega
    have le8 : 8 ≤ sizeLine := by omega
    have ll : namesW.length = 8 := rfl
    show wpS c__law_wrong11 [none, none, none] μ (outs μ.next Q QX)
    simp only [startE, wpS, wpT, wpE, wpA, wpI, wpG, wpGs, wpOpt, outs, wipeE, ePar, List.set, List.getElem?_cons_zero, List.getElem?_cons_succ, c__law_wrong11]
    refine ⟨le8, ?_⟩
    show wpS r1__law_wrong11 [some (.lst namesW), none, none] μ _
    have sm : ∀ {xs : List D} {n : Nat}, xs.length = n → n ≤ 100 → ∀ {ys : List D} {m : Nat}, ys.length = m → m ≤ 100 → ∀ {μ : Sto} {Q : Post}, Q (.lst (xs ++ ys)) μ → binD .Add (.lst xs) (.lst ys) μ Q := fun {xs n} h1 h2 {ys m} h3 h4 {μ Q} q => by
      rw [bin_addL]
      exact ⟨by omega, q⟩
    simp only [startE, wpS, wpT, wpE, wpA, wpI, wpG, wpGs, wpOpt, outs, wipeE, ePar, List.set, List.getElem?_cons_zero, List.getElem?_cons_succ, r1__law_wrong11]
    rw [it_lst]
    refine namesW_at (g := id) (f := fun x => .tup [.str "prepare", x, .str "begin"]) trivial (fun x N hN => ⟨le3, hN⟩) ?_
    rw [it_lst]
    refine namesW_at (g := id) (f := fun x => .tup [.str "bind", x, .str "s", .tup []]) trivial (fun x N hN => ⟨Nat.zero_le _, le4, hN⟩) ?_
    refine sm (n := 8) rfl (by decide) (m := 8) rfl (by decide) ?_
    simp only [startE, wpS, wpT, wpE, wpA, wpI, wpG, wpGs, wpOpt, outs, wipeE, ePar, List.set, List.getElem?_cons_zero, List.getElem?_cons_succ, r2__law_wrong11]
    rw [it_lst]
    refine namesW_at (g := id) (f := fun x => .tup [.str "bind", .str "p", x, .tup []]) trivial (fun x N hN => ⟨Nat.zero_le _, le4, hN⟩) ?_
    refine sm (n := 16) rfl (by decide) (m := 8) rfl (by decide) ?_
    rw [it_lst]
    refine namesW_at (g := id) (f := fun x => .tup [.str "run", x, .int 1]) trivial (fun x N hN => ⟨le3, hN⟩) ?_
    refine sm (n := 24) rfl (by decide) (m := 8) rfl (by decide) ?_
    simp only [startE, wpS, wpT, wpE, wpA, wpI, wpG, wpGs, wpOpt, outs, wipeE, ePar, List.set, List.getElem?_cons_zero, List.getElem?_cons_succ, r3__law_wrong11]
    rw [it_lst]
    refine namesW_at (g := id) (f := fun x => .tup [.str "forget", x]) trivial (fun x N hN => ⟨le2, hN⟩) ?_
    refine sm (n := 32) rfl (by decide) (m := 8) rfl (by decide) ?_
    rw [it_lst]
    refine namesW_at (g := id) (f := fun x => .tup [.str "close", x]) trivial (fun x N hN => ⟨le2, hN⟩) ?_
    refine sm (n := 40) rfl (by decide) (m := 8) rfl (by decide) ?_
    obtain ⟨X1, e1⟩ : ∃ X, X = (namesW.map fun x => D.tup [.str "prepare", x, .str "begin"]) ++ (namesW.map fun x => .tup [.str "bind", x, .str "s", .tup []]) ++ (namesW.map fun x => .tup [.str "bind", .str "p", x, .tup []]) ++ (namesW.map fun x => .tup [.str "run", x, .int 1]) ++ (namesW.map fun x => .tup [.str "forget", x]) ++ (namesW.map fun x => .tup [.str "close", x]) := ⟨_, rfl⟩
    have l1 : X1.length = 48 := by rw [e1]; rfl
    rw [← e1]
    simp only [startE, wpS, wpT, wpE, wpA, wpI, wpG, wpGs, wpOpt, outs, wipeE, ePar, List.set, List.getElem?_cons_zero, List.getElem?_cons_succ, r4__law_wrong11]
    refine ⟨⟨by decide, by decide, by rw [hsz]; decide⟩, le3, le3, le3, le3, le4, ?_⟩
    refine sm (n := 48) l1 (by decide) (m := 4) rfl (by decide) ?_
    obtain ⟨X2, e2⟩ : ∃ X, X = X1 ++ [D.tup [.str "prepare", .str "s", .str (repS "x" 201)], .tup [.str "prepare", .str "s", .str "a\n"], .tup [.str "prepare", .str "s", .str "\t"], .tup [.str "prepare", .str "s", .non]] := ⟨_, rfl⟩
    have l2 : X2.length = 52 := by rw [e2, List.length_append, l1]; rfl
    rw [show (201 : Int).toNat = 201 from rfl, ← e2]
    simp only [startE, wpS, wpT, wpE, wpA, wpI, wpG, wpGs, wpOpt, outs, wipeE, ePar, List.set, List.getElem?_cons_zero, List.getElem?_cons_succ, r5__law_wrong11]
    refine ⟨le5, le4, le1, le4, le1, le4, le3, ?_⟩
    refine sm (n := 52) l2 (by decide) (m := 3) rfl (by decide) ?_
    obtain ⟨X3, e3⟩ : ∃ X, X = X2 ++ [D.tup [.str "bind", .str "p", .str "s", .tup [.int 1, .int 2, .int 3, .int 4, .int 5]], .tup [.str "bind", .str "p", .str "s", .tup [.int 2147483648]], .tup [.str "bind", .str "p", .str "s", .tup [.str "'"]]] := ⟨_, rfl⟩
    have l3 : X3.length = 55 := by rw [e3, List.length_append, l2]; rfl
    rw [← e3]
    simp only [startE, wpS, wpT, wpE, wpA, wpI, wpG, wpGs, wpOpt, outs, wipeE, ePar, List.set, List.getElem?_cons_zero, List.getElem?_cons_succ, r6__law_wrong11]
    refine ⟨⟨by decide, by decide, by rw [hsz]; decide⟩, le1, le4, le1, le4, le1, le4, le4, le4, ?_⟩
    refine sm (n := 55) l3 (by decide) (m := 4) rfl (by decide) ?_
    obtain ⟨X4, e4⟩ : ∃ X, X = X3 ++ [D.tup [.str "bind", .str "p", .str "s", .tup [.str (repS "y" 41)]], .tup [.str "bind", .str "p", .str "s", .tup [.non]], .tup [.str "bind", .str "p", .str "s", .tup [.bl true]], .tup [.str "bind", .str "p", .str "s", .int 5]] := ⟨_, rfl⟩
    have l4 : X4.length = 59 := by rw [e4, List.length_append, l3]; rfl
    rw [show (41 : Int).toNat = 41 from rfl, ← e4]
    simp only [startE, wpS, wpT, wpE, wpA, wpI, wpG, wpGs, wpOpt, outs, wipeE, ePar, List.set, List.getElem?_cons_zero, List.getElem?_cons_succ, r7__law_wrong11]
    refine ⟨le1, le4, le2, le4, le1, le4, le3, ?_⟩
    refine sm (n := 59) l4 (by decide) (m := 3) rfl (by decide) ?_
    obtain ⟨X5, e5⟩ : ∃ X, X = X4 ++ [D.tup [.str "bind", .str "p", .str "s", .tup [.str "a\nb"]], .tup [.str "bind", .str "p", .str "s", .tup [.int 1, .str "\t"]], .tup [.str "bind", .str "p", .str "s", .tup [.int (-2147483649)]]] := ⟨_, rfl⟩
    have l5 : X5.length = 62 := by rw [e5, List.length_append, l4]; rfl
    rw [← e5]
    simp only [startE, wpS, wpT, wpE, wpA, wpI, wpG, wpGs, wpOpt, outs, wipeE, ePar, List.set, List.getElem?_cons_zero, List.getElem?_cons_succ, r8__law_wrong11]
    refine ⟨le4, le4, le1, le3, le1, le3, le4, ?_⟩
    refine sm (n := 62) l5 (by decide) (m := 4) rfl (by decide) ?_
    obtain ⟨X6, e6⟩ : ∃ X, X = X5 ++ [D.tup [.str "bind", .str "p", .str "s", .str "ab"], .tup [.str "bind", .str "p", .str "s", .str ""], .tup [.str "prepare", .lst [.str "a"], .str "begin"], .tup [.str "prepare", .str "s", .lst [.str "a"]]] := ⟨_, rfl⟩
    have l6 : X6.length = 66 := by rw [e6, List.length_append, l5]; rfl
    rw [← e6]
    simp only [startE, wpS, wpT, wpE, wpA, wpI, wpG, wpGs, wpOpt, outs, wipeE, ePar, List.set, List.getElem?_cons_zero, List.getElem?_cons_succ, r9__law_wrong11, eDnil]
    have k1 := hF.new0 (c := .dct []) rfl
    have n1 : μ.next ≤ (μ.new (.dct [])).next := Nat.le_succ _
    refine ⟨le4, le1, Nat.zero_le _, le4, le1, Nat.zero_le _, le4, le1, le2, le1, le2, le5, ?_⟩
    refine sm (n := 66) l6 (by decide) (m := 5) rfl (by decide) ?_
    generalize μ.new (.dct []) = μ2 at k1 n1 ⊢
    have hlt := k1.lt (k := μ.next) (c := .dct []) (by simp)
    generalize hk : μ.next = kd at k1 n1 hlt ⊢
    obtain ⟨X7, e7⟩ : ∃ X, X = X6 ++ [D.tup [.str "bind", .str "p", .str "s", .obj kd], .tup [.str "bind", .lst [.str "p"], .str "s", .tup []], .tup [.str "bind", .str "p", .lst [.str "s"], .tup []], .tup [.str "close", .lst [.str "a"]], .tup [.str "forget", .tup [.str "a"]]] := ⟨_, rfl⟩
    have l7 : X7.length = 71 := by rw [e7, List.length_append, l6]; rfl
    rw [← e7]
    simp only [startE, wpS, wpT, wpE, wpA, wpI, wpG, wpGs, wpOpt, outs, wipeE, ePar, List.set, List.getElem?_cons_zero, List.getElem?_cons_succ, r10__law_wrong11]
    refine ⟨le3, le3, le3, le3, le1, le1, le4, le5, ?_⟩
    refine sm (n := 71) l7 (by decide) (m := 5) rfl (by decide) ?_
    have ew : X7 ++ [D.tup [.str "run", .str "p", .int (-1)], .tup [.str "run", .str "p", .int 1001], .tup [.str "run", .str "p", .bl true], .tup [.str "run", .str "p", .str "1"], .tup [.str "bind", .str "p", .str "s", .tup [.tup [.int 1]]]] = wrongL kd := by
      rw [e7, e6, e5, e4, e3, e2, e1]
      rfl
    rw [ew]
    refine fin_all k1.wf n1 ?_ (h1 _ kd k1 (by rw [hk]; exact n1))
    show objBs μ2.next (wrongL kd) = true
    unfold wrongL
    simp [namesW, objBs, objB, hlt]
  · exact h.elim
end M
end
section
namespace M
open PySem PySem.Spec PyProof.Rows L2
open SX (S S_len S_cat)
section
variable {μ μ' : Sto} {j : Nat} {R R' : RC} {F : Cells} {δ : Env} {Q : Post} {E : XPost} {O : Outs}
theorem px_gen {m : Str} {sp : Spec} (hm : metOf m [(15, sp)] (.obj j) μ = some sp) (h : sp [.obj j] μ Q (fun _ _ => False)) : ePrp m [(15, sp)] δ [.obj j] μ Q E := by
  unfold ePrp
  simp only [hm]
  exact h
theorem px_phase (h : HW μ (cliC j R ++ F)) (q : Q (.str R.L.ph) μ) : ePrp "phase" [(15, sp_Client_phase)] δ [.obj j] μ Q E := px_gen (mc h rfl) ⟨R, F, h, q⟩
theorem px_waiting (h : HW μ (cliC j R ++ F)) (q : Q (.int R.L.snd.length) μ) : ePrp "waiting" [(15, sp_Client_waiting)] δ [.obj j] μ Q E := px_gen (mc h rfl) ⟨R, F, h, q⟩
theorem px_session (h : HW μ (cliC j R ++ F)) (q : Q (.int R.L.ses) μ) : ePrp "session" [(15, sp_Client_session)] δ [.obj j] μ Q E := px_gen (mc h rfl) ⟨R, F, h, q⟩
theorem px_handed (h : HW μ (cliC j R ++ F)) (q : Q (.int R.L.bats.length) μ) : ePrp "handed" [(15, sp_Client_handed)] δ [.obj j] μ Q E := px_gen (mc h rfl) ⟨R, F, h, q⟩
theorem px_received (h : HW μ (cliC j R ++ F)) (q : Q (.int R.L.outs.length) μ) : ePrp "received" [(15, sp_Client_received)] δ [.obj j] μ Q E := px_gen (mc h rfl) ⟨R, F, h, q⟩
theorem ne_intE {a b : Int} {Q : Bool → Prop} (e : a = b) (h : Q false) : cmpD .NotEq (.int a) (.int b) μ Q := by
  refine ⟨rfl, rfl, ?_⟩
  rw [show drf (.int a) μ = .int a from rfl, show drf (.int b) μ = .int b from rfl, deq_int, decide_eq_true e]
  exact h
theorem ne_strE {a b : Str} {Q : Bool → Prop} (e : a = b) (h : Q false) : cmpD .NotEq (.str a) (.str b) μ Q := by
  rw [cmp_ne_str, decide_eq_true e]
  exact h
theorem ne_pairE {a : Str} {Q : Bool → Prop} (h : Q false) : cmpD .NotEq (.lst [.str a, .bl true]) (.lst [.str a, .bl true]) μ Q := by
  refine ⟨rfl, rfl, ?_⟩
  have : deq (.lst [.str a, .bl true]) (.lst [.str a, .bl true]) = true := SeqAt.eqv_refl_plain _ (eqN_ok 12 (.lst [.str a, .bl true]) rfl).2.1
  rw [show drf (.lst [.str a, .bl true]) μ = .lst [.str a, .bl true] from rfl, this]
  exact h
theorem eq_pairE {a : Str} {Q : Bool → Prop} (h : Q true) : cmpD .Eq (.lst [.str a, .bl true]) (.lst [.str a, .bl true]) μ Q := by
  refine ⟨rfl, rfl, ?_⟩
  have : deq (.lst [.str a, .bl true]) (.lst [.str a, .bl true]) = true := SeqAt.eqv_refl_plain _ (eqN_ok 12 (.lst [.str a, .bl true]) rfl).2.1
  rw [show drf (.lst [.str a, .bl true]) μ = .lst [.str a, .bl true] from rfl, this]
  exact h
theorem eq_intE {a b : Int} {Q : Bool → Prop} (e : a = b) (h : Q true) : cmpD .Eq (.int a) (.int b) μ Q := by
  rw [cmp_eq_int, decide_eq_true e]
  exact h
theorem rpr_int {i : Nat} (hi : i ≤ 100) (q : Q (.str (strI i)) μ) : eRprI δ [.int i] μ Q E := by
  refine ⟨?_, q⟩
  rw [Int.natAbs_natCast]
  by_cases z : i = 0
  · rw [z]
    decide
  · have : i.log2 < 7 := (Nat.log2_lt z).mpr (by omega)
    omega
theorem rpr_full (q : Q (.str (reprOf (.lst [.str "full", .bl true]))) μ) : eRprI δ [.lst [.str "full", .bl true]] μ Q E := by
  have h : RpOk 2000 (pyOf (.lst [.str "full", .bl true])) := by
    refine RpOk.mono (RpOk.lst (b := 10) fun d m => ?_) (by decide)
    simp only [List.mem_cons, List.not_mem_nil, or_false] at m
    rcases m with rfl | rfl
    · exact .str (by decide +kernel) (by decide +kernel)
    · exact RpOk.mono RpOk.bl (by decide)
  exact rpr_ap (δ := δ) (E := E) rfl rfl h (by decide) q
end
theorem w__law_fifty11 : ∀ ds μ Q QX, μ.wf → objBs μ.next ds = true → sp__law_fifty11 ds μ Q QX → ds.length = 1 ∧ wpS c__law_fifty11 (startE N__law_fifty11 ds) μ (outs μ.next Q QX) := by
  intro ds μ Q QX hw ho h
  unfold sp__law_fifty11 at h
  split at h
  · rename_i j
    obtain ⟨R, F, hn, hh, hI, h1⟩ := h
    refine ⟨rfl, ?_⟩
    have hsz : sizeLine = 16777216 := sizeLine_eq
    show wpS c__law_fifty11 [some (.obj j)] μ (outs μ.next Q QX)
    simp only [startE, wpS, wpT, wpE, wpA, wpI, wpG, wpGs, wpOpt, outs, wipeE, ePar, List.set, List.getElem?_cons_zero, List.getElem?_cons_succ, c__law_fifty11]
    refine px_handed hh ?_
    rw [c_lt]
    by_cases h50 : R.L.bats.length < 50
    · refine ite_ye11 (decide_eq_true (by omega)) ?_
      exact fin_all hw (Nat.le_refl _) rfl (h1 μ R _ hh hI (Nat.le_refl _))
    · refine ite_no11 (by rw [decide_eq_true_eq]; omega) ?_
      have e50 : R.L.bats.length = 50 := by have := hI.ok.bl; omega
      have na : isName (Str.ofString "a").cps.toList = true := by decide +kernel
      have nb : isName (Str.ofString "b").cps.toList = true := by decide +kernel
      have fo : ∀ (μ : Sto) (x : Str), x.length ≤ 1000 → isName x.cps.toList = true → CmdO μ (.tup [.str "forget", .str x]) (some (.forget x)) := fun μ x hl hx => by
        have e : (strIf isName (.str x)).map Cmd.forget = some (.forget x) := by
          unfold strIf
          dsimp only
          rw [if_pos hx]
          rfl
        rw [← e]
        exact .forget ⟨rfl, fun y e => by cases e; omega⟩
      have cl : ∀ (μ : Sto) (x : Str), x.length ≤ 1000 → isName x.cps.toList = true → CmdO μ (.tup [.str "close", .str x]) (some (.close x)) := fun μ x hl hx => by
        have e : (strIf isName (.str x)).map Cmd.close = some (.close x) := by
          unfold strIf
          dsimp only
          rw [if_pos hx]
          rfl
        rw [← e]
        exact .close ⟨rfl, fun y e => by cases e; omega⟩
      have la : (Str.ofString "a").length ≤ 1000 := by decide +kernel
      have lb : (Str.ofString "b").length ≤ 1000 := by decide +kernel
      have add : ∀ {L : CL} {c : Nat} {x : Cmd}, Idle L c hn → c < 20 → GC (.cmd x) → Idle (addL x L) (c + 1) hn := fun {L c x} hI hc hg => ⟨add_ok hI.ok (by rw [hI.c]; omega) hg, hI.ph, hI.snd, hI.outs, hI.ses, by show (L.cmds ++ [x]).length = _; rw [List.length_append, hI.c]; rfl, hI.h⟩
      simp only [startE, wpS, wpT, wpE, wpA, wpI, wpG, wpGs, wpOpt, outs, wipeE, ePar, List.set, List.getElem?_cons_zero, List.getElem?_cons_succ, r1__law_fifty11]
      refine ⟨by show 2 ≤ sizeLine; omega, some (.forget "a"), R, F, fo μ "a" la na, hh, hI.ok, ?_⟩
      dsimp only
      rw [if_neg (by rw [hI.c]; omega)]
      intro μ1 R1 k1 e1 n1
      rw [hI.c]
      refine ne_intE rfl ?_
      refine ite_no11 (by decide) ?_
      have I1 := add hI (x := .forget "a") (by omega) (GT.of_name na)
      rw [← e1] at I1
      refine ⟨by show 2 ≤ sizeLine; omega, some (.close "a"), R1, F, cl μ1 "a" la na, k1, I1.ok, ?_⟩
      dsimp only
      rw [if_neg (by rw [I1.c]; omega)]
      intro μ2 R2 k2 e2 n2
      rw [I1.c]
      refine ne_intE rfl ?_
      refine ite_no11 (by decide) ?_
      have I2 := add I1 (x := .close "a") (by omega) (GT.of_name na)
      rw [← e2] at I2
      have b2 : R2.L.bats.length = 50 := by rw [I2.h, ← hI.h, e50]
      simp only [startE, wpS, wpT, wpE, wpA, wpI, wpG, wpGs, wpOpt, outs, wipeE, ePar, List.set, List.getElem?_cons_zero, List.getElem?_cons_succ, r2__law_fifty11]
      refine ⟨R2, F, k2, I2.ok, ?_⟩
      rw [if_pos b2]
      intro μ3 k3 n3
      refine ⟨by show 2 ≤ sizeLine; omega, ?_⟩
      refine eq_pairE ?_
      refine ite_ye11 rfl ?_
      refine ⟨by show 2 ≤ sizeLine; omega, some (.forget "b"), R2, F, fo μ3 "b" lb nb, k3, I2.ok, ?_⟩
      dsimp only
      rw [if_neg (by rw [I2.c]; omega)]
      intro μ4 R4 k4 e4 n4
      rw [I2.c]
      refine eq_intE rfl ?_
      refine ite_ye11 rfl ?_
      have I4 := add I2 (x := .forget "b") (by omega) (GT.of_name nb)
      rw [← e4] at I4
      refine px_handed k4 ?_
      have b4 : R4.L.bats.length = 50 := by rw [I4.h, ← hI.h, e50]
      rw [b4]
      refine eq_intE rfl ?_
      exact fin_all k4.wf (by omega) rfl (h1 μ4 R4 _ k4 I4 (by omega))
  · exact h.elim
def oft11 (a : Int) (c h i : Nat) : Prop := (1 ≤ c ∧ 3 * h ≤ 2 * i) ∨ (c = 0 ∧ (a + h) % 23 = 0 ∧ 3 * h ≤ 2 * i + 1) ∨ (c = 0 ∧ (a + h) % 23 ≠ 0 ∧ 3 * h ≤ 2 * i + 2)
theorem oft_no {a : Int} {c h i : Nat} (H : oft11 a c h i) (hn : (a + 7 * c + h) % 23 ≠ 0) : oft11 a (min 20 (c + 1)) h (i + 1) := by
  unfold oft11 at H ⊢
  rcases H with ⟨h1, h2⟩ | ⟨h1, h2, h3⟩ | ⟨h1, h2, h3⟩
  · exact .inl ⟨by omega, by omega⟩
  · exfalso
    subst h1
    apply hn
    omega
  · exact .inl ⟨by omega, by omega⟩
theorem oft_ye {a : Int} {c h i : Nat} (H : oft11 a c h i) (hn : (a + 7 * c + h) % 23 = 0) : oft11 a 0 (h + 1) (i + 1) := by
  unfold oft11 at H ⊢
  rcases H with ⟨h1, h2⟩ | ⟨h1, h2, h3⟩ | ⟨h1, h2, h3⟩
  · by_cases hz : (a + ((h + 1 : Nat) : Int)) % 23 = 0
    · exact .inr (.inl ⟨rfl, hz, by omega⟩)
    · exact .inr (.inr ⟨rfl, hz, by omega⟩)
  · refine .inr (.inr ⟨rfl, ?_, by omega⟩)
    omega
  · exfalso
    subst h1
    apply h2
    omega
end M
end
section
namespace M
open PySem PySem.Spec PyProof.Rows L2
open SX (S S_len S_cat)
theorem genC_GC11 {c : Cmd} (h : genC c) : GC (.cmd c) := by
  cases c with
  | prepare n z => exact ⟨GT.of_name h.1, GT.of_strg h.2⟩
  | bind p n vs =>
    obtain ⟨h1, h2, h3, h4⟩ := h
    refine ⟨GT.of_name h1, GT.of_name h2, fun k m => ?_, h3⟩
    have := h4 k m
    cases k with
    | inl i => exact this
    | inr x => exact GT.of_text this
  | run n m => exact ⟨GT.of_name h.1, h.2⟩
  | forget n => exact GT.of_name (l := n.cps.toList) h
  | close n => exact GT.of_name (l := n.cps.toList) h
theorem anyS11 {μ : Sto} {x : Str} (h : x.length ≤ 1000) : anyD (.str x) μ := ⟨rfl, fun y e => by cases e; omega⟩
theorem strIf11 {f : List Nat → Bool} {x : Str} (h : GT' f x) : strIf f (.str x) = some x := by
  have h := h.q
  unfold strIf
  dsimp only
  rw [h, if_pos rfl]
theorem keysIf11 : ∀ {ks : List Key}, (∀ k ∈ ks, GK k) → keysIf (ks.map keyD) = some ks
  | [], _ => rfl
  | k :: ks, h => by
    have e : keyIf (keyD k) = some k := by
      have g := h k (by simp)
      cases k with
      | inl i =>
        have g : -2147483648 ≤ i ∧ i ≤ 2147483647 := g
        show (if _ then _ else _) = _
        rw [if_pos g]
      | inr x =>
        have g : GT isText x.cps.toList := g
        show (if isText x.cps.toList = true then _ else _) = _
        rw [g.q, if_pos rfl]
    show ((keyIf (keyD k)).bind fun k => (keysIf (ks.map keyD)).map fun ks => k :: ks) = _
    rw [e, keysIf11 fun x m => h x (by simp [m])]
    rfl
theorem cmd11 {μ : Sto} {c : Cmd} (g : GC (.cmd c)) : CmdO μ (cmdD c) (some c) := by
  cases c with
  | prepare n z =>
    have h := CmdO.prep (μ := μ) (a := .str n) (e := .str z) (anyS11 (GT.len1000 g.1)) (anyS11 (GT.len1000 g.2))
    rw [strIf11 g.1, strIf11 g.2] at h
    exact h
  | bind p n vs =>
    have hr : rowsOk (tupK vs) μ := ⟨rfl, fun ds e hl x hx => by
      cases e
      obtain ⟨k, hk, rfl⟩ := List.mem_map.mp hx
      refine ⟨by cases k <;> rfl, fun s es => ?_⟩
      cases k with
      | inl i => cases es
      | inr y =>
        cases es
        exact GT.len1000 (q := isText) (g.2.2.1 _ hk)⟩
    have h := CmdO.bind (μ := μ) (a := .str p) (e := .str n) (f := tupK vs) (anyS11 (GT.len1000 g.1)) (anyS11 (GT.len1000 g.2.1)) hr
    have e : rowIf (tupK vs) μ = some vs := by
      unfold rowIf
      show (if (vs.map keyD).length ≤ 4 then keysIf (vs.map keyD) else none) = some vs
      rw [if_pos (by rw [List.length_map]; exact g.2.2.2), keysIf11 g.2.2.1]
    rw [strIf11 g.1, strIf11 g.2.1, e] at h
    exact h
  | run p k =>
    have e : intIn (.int k) 0 1000 = true := by
      unfold intIn
      simp only [Bool.and_eq_true, decide_eq_true_eq]
      exact g.2
    have h := CmdO.run (μ := μ) (a := .str p) (e := .int k) (anyS11 (GT.len1000 g.1)) ⟨rfl, fun y e => by cases e⟩ ⟨rfl, fun z => ⟨p, rfl, by
      rw [deq_int, decide_eq_true_eq] at z
      rw [z]⟩⟩
    rw [strIf11 g.1] at h
    have e2 : ((some p).bind fun x => if intIn (.int k) 0 1000 = true then some (Cmd.run x (intOf (.int k))) else none) = some (.run p k) := by
      show (if intIn (.int k) 0 1000 = true then some (Cmd.run p k) else none) = _
      rw [if_pos e]
    rw [e2] at h
    exact h
  | forget n =>
    have h := CmdO.forget (μ := μ) (a := .str n) (anyS11 (GT.len1000 (x := n) (q := isName) g))
    rw [strIf11 (f := isName) g] at h
    exact h
  | close n =>
    have h := CmdO.close (μ := μ) (a := .str n) (anyS11 (GT.len1000 (x := n) (q := isName) g))
    rw [strIf11 (f := isName) g] at h
    exact h
def okCmd11 (μ : Sto) (d : D) : Prop := ∃ c, CmdO μ d (some c) ∧ GC (.cmd c)
theorem xs11 : ∀ n : Fin 102, isStrg (repS "x" (99 + n.val)).cps.toList = true ∧ (repS "x" (99 + n.val)).length ≤ 1000 := by decide +kernel
section
variable {n0 j kd : Nat} {wr : List D} {d0 d5 : D} {O : Outs} {a : Int}
def FW (kd : Nat) : Cells := [(kd, .dct [])]
theorem turn11 {μ : Sto} {R : RC} {c h i : Nat} {d6 : D} {o7 o8 o10 : Option D} (hh : HW μ (cliC j R ++ FW kd)) (hI : Idle R.L c h) (hc : c ≤ 20) (hf : oft11 a c h i) (hi : i < 62) (hok : ∀ μ', okCmd11 μ' d6)
    (fin : ∀ μ' R' c' h' o9 o10, HW μ' (cliC j R' ++ FW kd) → Idle R'.L c' h' → c' ≤ 20 → oft11 a c' h' (i + 1) → μ.next ≤ μ'.next → O.nx [some d0, some (.obj j), some (.lst (wrongL kd)), some (.int c'), some (.int h'), some d5, some d6, o7, o8, o9, o10] μ') :
    wpS q1b1_law11 [some d0, some (.obj j), some (.lst (wrongL kd)), some (.int c), some (.int h), some d5, some d6, o7, o8, some (.int (a + 7 * c + h)), o10] μ O := by
  have hsz : sizeLine = 16777216 := sizeLine_eq
  have ll : (wrongL kd).length = 76 := rfl
  have elen : ∀ {μ : Sto} {E : XPost} {Q : Post}, spLen [.lst (wrongL kd)] μ Q E = Q (.int 76) μ := fun {μ E Q} => by simp [spLen, sq_lst, ll]
  have hh50 : h < 50 := by
    unfold oft11 at hf
    omega
  have rest : ∀ (μ1 : Sto) (d10 : D) (e10 : (c < 20 ∧ d10 = .int c) ∨ (c = 20 ∧ d10 = .lst [.str "full", .bl true])), HW μ1 (cliC j R ++ FW kd) → μ.next ≤ μ1.next →
      wpS q4b1_law11 [some d0, some (.obj j), some (.lst (wrongL kd)), some (.int c), some (.int h), some d5, some d6, o7, o8, some (.int (a + 7 * c + h)), some d10] μ1 O := fun μ1 d10 e10 k1 n1 => by
    have end6 : ∀ (μ2 : Sto) (R2 : RC), HW μ2 (cliC j R2 ++ FW kd) → Idle R2.L (min 20 (c + 1)) h → μ.next ≤ μ2.next →
        wpS q5b1_law11 [some d0, some (.obj j), some (.lst (wrongL kd)), some (.int c), some (.int h), some d5, some d6, o7, o8, some (.int (a + 7 * c + h)), some d10] μ2 O := fun μ2 R2 k2 I2 n2 => by
      simp only [startE, wpS, wpT, wpE, wpA, wpI, wpG, wpGs, wpOpt, outs, wipeE, ePar, List.set, List.getElem?_cons_zero, List.getElem?_cons_succ, q5b1_law11]
      unfold spMin2
      dsimp only
      have em : (if (c : Int) + 1 < 20 then (c : Int) + 1 else 20) = ((min 20 (c + 1) : Nat) : Int) := by
        split <;> omega
      rw [show (binD .Add (.int (c : Int)) (.int 1) μ2) = fun Q => Q (.int ((c : Int) + 1)) μ2 from rfl]
      dsimp only
      rw [em]
      generalize hm : min 20 (c + 1) = m at I2 ⊢
      simp only [startE, wpS, wpT, wpE, wpA, wpI, wpG, wpGs, wpOpt, outs, wipeE, ePar, List.set, List.getElem?_cons_zero, List.getElem?_cons_succ, q6b1_law11]
      rw [b_mod]
      refine ⟨by decide, ?_⟩
      rw [cmp_eq_int]
      have e23 : (a + 7 * c + h).fmod 23 = (a + 7 * c + h) % 23 := Int.fmod_eq_emod_of_nonneg _ (by decide)
      rw [e23]
      by_cases hz : (a + 7 * c + h) % 23 = 0
      · refine ite_ye11 (decide_eq_true hz) ?_
        rw [show binD .Add (.int (h : Int)) (.int 1) μ2 = fun Q => Q (.int ((h : Int) + 1)) μ2 from rfl]
        dsimp only
        refine ⟨R2, FW kd, k2, I2.ok, ?_⟩
        rw [if_neg (by rw [I2.h]; omega)]
        intro μ3 R3 k3 e3 n3
        rw [I2.h]
        rw [show (h : Int) + 1 = ((h + 1 : Nat) : Int) by omega]
        refine rpr_int (by omega) (rpr_int (by omega) ?_)
        refine ne_strE rfl ?_
        refine ite_no11 (by decide) ?_
        have es : syncL R2.L = handL R2.L := by
          unfold syncL
          rw [if_neg (by rw [I2.ph]; decide)]
        have I3 : Idle R3.L 0 (h + 1) := by
          have ho := sync_ok I2.ok (by rw [I2.h]; omega)
          rw [e3]
          refine ⟨ho, ?_, ?_, ?_, ?_, ?_, ?_⟩
          · rw [es]; exact I2.ph
          · rw [es]; exact I2.snd
          · rw [es]; exact I2.outs
          · rw [es]; exact I2.ses
          · rw [es]; rfl
          · rw [es]
            show (R2.L.bats ++ [R2.L.cmds]).length = _
            rw [List.length_append, I2.h]
            rfl
        exact fin μ3 R3 0 (h + 1) _ _ k3 I3 (by omega) (oft_ye hf hz) (by omega)
      · refine ite_no11 (by rw [decide_eq_true_eq]; exact hz) ?_
        exact fin μ2 R2 m h _ _ k2 I2 (by omega) (by rw [← hm]; exact oft_no hf hz) n2
    have tail : ∀ (μ2 : Sto) (R2 : RC), HW μ2 (cliC j R2 ++ FW kd) → Idle R2.L (min 20 (c + 1)) h → μ.next ≤ μ2.next →
        wpT (.tOr (.cmp .NotEq (.nod (fPrp "phase") (ePrp "phase" [(15, sp_Client_phase)]) (.cons (.var 1) .nil)) (.con (.str "closed"))) (.tOne (.cmp .NotEq (.nod (fPrp "waiting") (ePrp "waiting" [(15, sp_Client_waiting)]) (.cons (.var 1) .nil)) (.con (.int 0))))) [some d0, some (.obj j), some (.lst (wrongL kd)), some (.int c), some (.int h), some d5, some d6, o7, o8, some (.int (a + 7 * c + h)), some d10] μ2
          (fun b μ' => if b = true then wpS (.seq (.ret (.con (.bl false))) (.nil)) [some d0, some (.obj j), some (.lst (wrongL kd)), some (.int c), some (.int h), some d5, some d6, o7, o8, some (.int (a + 7 * c + h)), some d10] μ' { O with nx := fun δ' μ' => wpS q5b1_law11 δ' μ' O } else wpS .nil [some d0, some (.obj j), some (.lst (wrongL kd)), some (.int c), some (.int h), some d5, some d6, o7, o8, some (.int (a + 7 * c + h)), some d10] μ' { O with nx := fun δ' μ' => wpS q5b1_law11 δ' μ' O })
          (fun x μ' => O.xc x [some d0, some (.obj j), some (.lst (wrongL kd)), some (.int c), some (.int h), some d5, some d6, o7, o8, some (.int (a + 7 * c + h)), some d10] μ') := fun μ2 R2 k2 I2 n2 => by
      simp only [startE, wpS, wpT, wpE, wpA, wpI, wpG, wpGs, wpOpt, outs, wipeE, ePar, List.set, List.getElem?_cons_zero, List.getElem?_cons_succ, ]
      refine px_phase k2 ?_
      refine ne_strE I2.ph ?_
      refine ite_no11 (by decide) ?_
      refine px_waiting k2 ?_
      refine ne_intE (by rw [I2.snd]; rfl) ?_
      refine ite_no11 (by decide) ?_
      exact end6 μ2 R2 k2 I2 n2
    obtain ⟨cm, hcm, hg⟩ := hok μ1
    rcases e10 with ⟨hlt, rfl⟩ | ⟨heq, rfl⟩
    · show wpS q4b1_law11 _ μ1 O
      simp only [startE, wpS, wpT, wpE, wpA, wpI, wpG, wpGs, wpOpt, outs, wipeE, ePar, List.set, List.getElem?_cons_zero, List.getElem?_cons_succ, q4b1_law11]
      refine ⟨some cm, R, FW kd, hcm, k1, hI.ok, ?_⟩
      dsimp only
      rw [if_neg (by rw [hI.c]; omega)]
      intro μ2 R2 k2 e2 n2
      rw [hI.c]
      refine rpr_int (by omega) (rpr_int (by omega) ?_)
      refine ne_strE rfl ?_
      refine ite_no11 (by decide) ?_
      have I2 : Idle R2.L (min 20 (c + 1)) h := by
        rw [e2, show min 20 (c + 1) = c + 1 by omega]
        exact ⟨add_ok hI.ok (by rw [hI.c]; omega) hg, hI.ph, hI.snd, hI.outs, hI.ses, by show (R.L.cmds ++ [cm]).length = _; rw [List.length_append, hI.c]; rfl, hI.h⟩
      have := tail μ2 R2 k2 I2 (by omega)
      simp only [startE, wpS, wpT, wpE, wpA, wpI, wpG, wpGs, wpOpt, outs, wipeE, ePar, List.set, List.getElem?_cons_zero, List.getElem?_cons_succ, ] at this
      exact this
    · simp only [startE, wpS, wpT, wpE, wpA, wpI, wpG, wpGs, wpOpt, outs, wipeE, ePar, List.set, List.getElem?_cons_zero, List.getElem?_cons_succ, q4b1_law11]
      refine ⟨some cm, R, FW kd, hcm, k1, hI.ok, ?_⟩
      dsimp only
      rw [if_pos (by rw [hI.c]; exact heq)]
      intro μ2 k2 n2
      refine rpr_full (rpr_full ?_)
      refine ne_strE rfl ?_
      refine ite_no11 (by decide) ?_
      have I2 : Idle R.L (min 20 (c + 1)) h := by
        rw [show min 20 (c + 1) = c by omega]
        exact hI
      have := tail μ2 R k2 I2 (by omega)
      simp only [startE, wpS, wpT, wpE, wpA, wpI, wpG, wpGs, wpOpt, outs, wipeE, ePar, List.set, List.getElem?_cons_zero, List.getElem?_cons_succ, ] at this
      exact this
  simp only [startE, wpS, wpT, wpE, wpA, wpI, wpG, wpGs, wpOpt, outs, wipeE, ePar, List.set, List.getElem?_cons_zero, List.getElem?_cons_succ, q1b1_law11]
  rw [elen, b_mod]
  have f76 := fmod_lt (a := a + 7 * c + h) (b := 76) (by omega)
  refine ⟨by decide, ix_pick f76.1 (by rw [ll]; exact f76.2) (P := fun d => d ∈ wrongL kd) (fun d m => m) fun d m => ?_⟩
  refine ⟨none, R, FW kd, wrong_one (hh.get (by simp [FW])) d m, hh, hI.ok, fun μ1 k1 n1 => ?_⟩
  refine ⟨by show 2 ≤ sizeLine; omega, ?_⟩
  refine ne_pairE ?_
  refine ite_no11 (by decide) ?_
  simp only [startE, wpS, wpT, wpE, wpA, wpI, wpG, wpGs, wpOpt, outs, wipeE, ePar, List.set, List.getElem?_cons_zero, List.getElem?_cons_succ, q2b1_law11, q3b1_law11]
  rw [cmp_eq_int]
  by_cases h20 : c = 20
  · refine ite_ye11 (decide_eq_true (by omega)) ?_
    refine ⟨by show 2 ≤ sizeLine; omega, ?_⟩
    exact rest μ1 _ (.inr ⟨h20, rfl⟩) k1 n1
  · refine ite_no11 (by rw [decide_eq_true_eq]; omega) ?_
    exact rest μ1 _ (.inl ⟨by omega, rfl⟩) k1 n1
end
end M
end
section
namespace M
open PySem PySem.Spec PyProof.Rows L2
open SX (S S_len S_cat)
theorem isnot_non {μ : Sto} {Q : Bool → Prop} (h : Q false) : cmpD .IsNot .non .non μ Q := h
section
variable {n0 j kd : Nat} {d0 d5 : D} {O : Outs}
theorem last11 {μ : Sto} {R : RC} {h : Nat} {o6 o7 o9 o10 o3 o4 : Option D} {F : Cells} (hh : HW μ (cliC j R ++ F)) (hI : Idle R.L 0 h) (h47 : 47 ≤ h) (h50 : h ≤ 50)
    (fin : ∀ μ', μ'.wf → μ.next ≤ μ'.next → O.rt (.bl true) μ') :
    wpS r8_law11 [some d0, some (.obj j), some (.lst (wrongL kd)), o3, o4, some d5, o6, o7, none, o9, o10] μ O := by
  have hsz : sizeLine = 16777216 := sizeLine_eq
  simp only [startE, wpS, wpT, wpE, wpA, wpI, wpG, wpGs, wpOpt, outs, wipeE, ePar, List.set, List.getElem?_cons_zero, List.getElem?_cons_succ, r8_law11]
  refine px_handed hh ?_
  rw [hI.h]
  simp only [startE, wpS, wpT, wpE, wpA, wpI, wpG, wpGs, wpOpt, outs, wipeE, ePar, List.set, List.getElem?_cons_zero, List.getElem?_cons_succ, r9_law11]
  refine ⟨by show 7 ≤ sizeLine; omega, ?_⟩
  rw [it_lst]
  refine for_gen (fun i δ μ' => ∃ o9, δ = [some d0, some (.obj j), some (.lst (wrongL kd)), o3, o4, some d5, o6, o7, some (.int h), o9, o10] ∧ HW μ' (cliC j R ++ F) ∧ μ.next ≤ μ'.next) ⟨o9, rfl, hh, Nat.le_refl _⟩ ?_ ?_
  · rintro i x LW hx hLW δ μ' ⟨o9, rfl, k1, n1⟩
    refine ⟨trivial, ?_⟩
    have hno : (tyName x μ').isSome = true ∧ intIn x 1 R.L.bats.length = false := by
      have m := List.mem_of_getElem? hx
      simp only [List.mem_cons, List.not_mem_nil, or_false] at m
      rw [hI.h]
      rcases m with rfl | rfl | rfl | rfl | rfl | rfl | rfl
      · exact ⟨rfl, by unfold intIn; simp⟩
      · refine ⟨rfl, ?_⟩
        unfold intIn
        simp
        omega
      · exact ⟨rfl, by unfold intIn; simp⟩
      · refine ⟨rfl, ?_⟩
        unfold intIn
        simp
        omega
      · exact ⟨rfl, rfl⟩
      · exact ⟨rfl, rfl⟩
      · exact ⟨rfl, rfl⟩
    simp only [startE, wpS, wpT, wpE, wpA, wpI, wpG, wpGs, wpOpt, outs, wipeE, ePar, List.set, List.getElem?_cons_zero, List.getElem?_cons_succ, b11_law11]
    refine ⟨R, F, k1, hI.ok, hno.1, hI.outs, ?_⟩
    rw [if_pos hno.2]
    intro μ2 k2 n2
    refine ⟨by show 2 ≤ sizeLine; omega, ?_⟩
    refine ne_pairE ?_
    refine ite_no11 (by decide) ?_
    exact hLW _ _ ⟨_, rfl, k2, by omega⟩
  · rintro δ μ' ⟨o9, rfl, k1, n1⟩
    refine ⟨trivial, ?_⟩
    simp only [startE, wpS, wpT, wpE, wpA, wpI, wpG, wpGs, wpOpt, outs, wipeE, ePar, List.set, List.getElem?_cons_zero, List.getElem?_cons_succ, r10_law11]
    refine ⟨R, F, h, k1, hI, fun μ2 R2 c k2 I2 n2 => ?_⟩
    refine tru_go11 ?_
    refine ite_no11 (by decide) ?_
    have e1 : intIn (.int 1) 1 R2.L.bats.length = true := by
      rw [I2.h]
      unfold intIn
      simp
      omega
    refine ⟨R2, F, k2, I2.ok, rfl, I2.outs, ?_⟩
    rw [if_neg (by rw [e1]; decide)]
    refine isnot_non ?_
    refine ite_no11 (by decide) ?_
    rw [mx_outcome k2]
    dsimp only
    have e2 : intIn (.int h) 1 R2.L.bats.length = true := by
      rw [I2.h]
      unfold intIn
      simp
      omega
    refine ⟨R2, F, k2, I2.ok, rfl, ?_⟩
    rw [if_neg (by rw [e2]; decide), I2.outs]
    refine isnot_non ?_
    refine ite_no11 (by decide) ?_
    simp only [startE, wpS, wpT, wpE, wpA, wpI, wpG, wpGs, wpOpt, outs, wipeE, ePar, List.set, List.getElem?_cons_zero, List.getElem?_cons_succ, r11_law11]
    refine px_received k2 ?_
    rw [I2.outs]
    refine eq_intE rfl ?_
    refine ite_ye11 rfl ?_
    refine px_session k2 ?_
    refine eq_intE I2.ses ?_
    exact fin μ2 k2.wf (by omega)
theorem more11 {μ : Sto} {R : RC} {c h N : Nat} {o6 o7 o9 o10 : Option D} {F : Cells} (hh : HW μ (cliC j R ++ F)) (hI : Idle R.L c h) (hN : 47 ≤ N) (hN2 : N ≤ 53) (hh46 : h < 47) (fin : ∀ μ', μ'.wf → μ.next ≤ μ'.next → O.rt (.bl true) μ') {gd : Sto → Prop} (hgd : ∀ μ, gd μ) {xc : XPost} :
    loopF (fun x δ μ N => wpG (.gN 7) x δ μ fun δ' μ' => wpS b8_law11 δ' μ' { { O with nx := fun δ' μ' => wpS r8_law11 δ' μ' O } with nx := N, ct := N, bk := fun δ' μ' => wpS r8_law11 δ' μ' O }) gd (fun δ' μ' => wpS r8_law11 δ' μ' O) (intsD h (N - h)) [some d0, some (.obj j), some (.lst (wrongL kd)), some (.int c), some (.int h), some d5, o6, o7, none, o9, o10] μ := by
  have hsz : sizeLine = 16777216 := sizeLine_eq
  refine for_gen (fun i δ μ' => ∃ R' o7 o10, δ = [some d0, some (.obj j), some (.lst (wrongL kd)), some (.int c), some (.int h), some d5, o6, o7, none, o9, o10] ∧ HW μ' (cliC j R' ++ F) ∧ Idle R'.L (if i = 0 then c else 0) (min 50 (h + i)) ∧ μ.next ≤ μ'.next) ⟨R, o7, o10, rfl, hh, by rw [if_pos rfl, show min 50 (h + 0) = h by omega]; exact hI, Nat.le_refl _⟩ ?_ ?_
  · rintro i x LW hx hLW δ μ' ⟨R', o7, o10, rfl, k1, I1, n1⟩
    obtain ⟨hi, rfl⟩ := intsD_at hx
    refine ⟨hgd _, ?_⟩
    rw [show (h : Int) + (i : Int) = ((h + i : Nat) : Int) by omega]
    generalize hk : h + i = k at I1 ⊢
    simp only [startE, wpS, wpT, wpE, wpA, wpI, wpG, wpGs, wpOpt, outs, wipeE, ePar, List.set, List.getElem?_cons_zero, List.getElem?_cons_succ, b8_law11]
    rw [b_add]
    rw [show (k : Int) + 1 = ((k + 1 : Nat) : Int) by omega]
    simp only [startE, wpS, wpT, wpE, wpA, wpI, wpG, wpGs, wpOpt, outs, wipeE, ePar, List.set, List.getElem?_cons_zero, List.getElem?_cons_succ, q1b8_law11]
    have cge : ∀ {a b : Int} {μ : Sto} {Q : Bool → Prop}, cmpD .GtE (.int a) (.int b) μ Q = Q (decide (b ≤ a)) := rfl
    rw [cge]
    have handed : ∀ (μ2 : Sto) (R2 : RC) (h2 : Nat) (d10 : D), HW μ2 (cliC j R2 ++ F) → Idle R2.L 0 (min 50 (k + 1)) → μ.next ≤ μ2.next → LW [some d0, some (.obj j), some (.lst (wrongL kd)), some (.int c), some (.int h), some d5, o6, some (.int k), none, o9, some d10] μ2 := fun μ2 R2 h2 d10 k2 I2 n2 => by
      refine hLW _ _ ⟨R2, _, _, rfl, k2, ?_, n2⟩
      rw [if_neg (by omega), show h + (i + 1) = k + 1 by omega]
      exact I2
    have emin : spMin2 = fun ds μ Q E => spMin2 ds μ Q E := rfl
    by_cases h50 : 50 ≤ k
    · refine ite_ye11 (decide_eq_true (by omega)) ?_
      refine ⟨by show 2 ≤ sizeLine; omega, ?_⟩
      simp only [startE, wpS, wpT, wpE, wpA, wpI, wpG, wpGs, wpOpt, outs, wipeE, ePar, List.set, List.getElem?_cons_zero, List.getElem?_cons_succ, q2b8_law11]
      have b50 : R'.L.bats.length = 50 := by rw [I1.h]; omega
      refine ⟨R', F, k1, I1.ok, ?_⟩
      rw [if_pos b50]
      intro μ2 k2 n2
      refine ne_pairE ?_
      refine ite_no11 (by decide) ?_
      refine px_handed k2 ?_
      rw [b_add]
      unfold spMin2
      dsimp only
      rw [show (if (50 : Int) < (k : Int) + 1 then (50 : Int) else (k : Int) + 1) = 50 from if_pos (by omega)]
      refine ne_intE (by rw [b50]; rfl) ?_
      refine ite_no11 (by decide) ?_
      have I2 : Idle R'.L 0 (min 50 (k + 1)) := by
        have := I1
        rw [if_neg (by omega), show min 50 k = min 50 (k + 1) by omega] at this
        exact this
      exact handed μ2 R' 0 _ k2 I2 (by omega)
    · refine ite_no11 (by rw [decide_eq_true_eq]; omega) ?_
      simp only [startE, wpS, wpT, wpE, wpA, wpI, wpG, wpGs, wpOpt, outs, wipeE, ePar, List.set, List.getElem?_cons_zero, List.getElem?_cons_succ, q2b8_law11]
      have bk : R'.L.bats.length = k := by rw [I1.h]; omega
      refine ⟨R', F, k1, I1.ok, ?_⟩
      rw [if_neg (by omega)]
      intro μ2 R2 k2 e2 n2
      rw [bk]
      refine ne_intE (by omega) ?_
      refine ite_no11 (by decide) ?_
      have es : syncL R'.L = handL R'.L := by
        unfold syncL
        rw [if_neg (by rw [I1.ph]; decide)]
      have I2 : Idle R2.L 0 (min 50 (k + 1)) := by
        have ho := sync_ok I1.ok (by omega)
        rw [e2]
        refine ⟨ho, ?_, ?_, ?_, ?_, ?_, ?_⟩
        · rw [es]; exact I1.ph
        · rw [es]; exact I1.snd
        · rw [es]; exact I1.outs
        · rw [es]; exact I1.ses
        · rw [es]; rfl
        · rw [es]
          show (R'.L.bats ++ [R'.L.cmds]).length = _
          rw [List.length_append, bk]
          show k + 1 = _
          omega
      refine px_handed k2 ?_
      rw [I2.h, b_add]
      unfold spMin2
      dsimp only
      rw [show (if (50 : Int) < (k : Int) + 1 then (50 : Int) else (k : Int) + 1) = ((min 50 (k + 1) : Nat) : Int) by split <;> omega]
      refine ne_intE rfl ?_
      refine ite_no11 (by decide) ?_
      exact handed μ2 R2 0 _ k2 I2 (by omega)
  · rintro δ μ' ⟨R', o7, o10, rfl, k1, I1, n1⟩
    rw [intsD_len] at I1
    refine ⟨hgd _, ?_⟩
    rw [if_neg (by omega)] at I1
    exact last11 k1 I1 (by omega) (by omega) fun μ2 w n => fin μ2 w (by omega)
end
theorem w__law_cell11 : ∀ ds μ Q QX, μ.wf → objBs μ.next ds = true → sp__law_cell11 ds μ Q QX → ds.length = 2 ∧ wpS c__law_cell11 (startE N__law_cell11 ds) μ (outs μ.next Q QX) := by
  intro ds μ Q QX hw ho h
  unfold sp__law_cell11 at h
  split at h
  · rename_i d k
    obtain ⟨h0, ns, rfl, h2⟩ := h
    refine ⟨rfl, ?_⟩
    obtain ⟨j, rfl⟩ := Int.eq_ofNat_of_zero_le h0
    rw [Int.toNat_natCast] at h2
    have h3 := fin_same hw (rfl : objB μ.next (.int _) = true) h2
    simp [startE, wpS, wpT, wpE, wpA, wpI, wpG, wpGs, wpOpt, spLen, spIsi, spInt, spStr, spTup, spLst, spMax, spApp, spFind, spSplit, spJoin, spDget, tn_str, tn_int, tn_bl, tn_non, tn_tup, tn_lst, tn_scr, td_str, td_lst, isB, tys, truD, cmpD, binD, slD, ixD, outs, eAllS, eAllN, eMaxD, eGin, eGinT, eGix, eRse, eCal0, drf, sq_tup, sq_lst, sq_scr, sq_str, sq_int, sq_non, l_lst, l_scr, l_tup, lm_lst, lm_str, lm_int, lm_tup, lm_non, lm_bl, eqOk_str, eqOk_int, eqOk_non, deq_int, deq_str, two_le, isNonD, tysOf, c__law_cell11, N__law_cell11, sq_scr]
    by_cases hk : j < ns.length
    · rw [if_pos (by simpa using hk), atI_nat', List.getElem?_map, List.getElem?_eq_getElem hk]
      rw [List.getElem?_eq_getElem hk] at h3
      exact h3
    · rw [if_neg (by simpa using hk)]
      rw [List.getElem?_eq_none (by omega)] at h3
      exact h3
  · exact h.elim
theorem add_cmds {cs1 cs2 : List Cmd} {μ : Sto} {K : Post} (hl : cs1.length + cs2.length ≤ 1000) (q : K (cmdsD (cs1 ++ cs2)) μ) : binD .Add (cmdsD cs1) (cmdsD cs2) μ K := by
  have hsz : sizeLine = 16777216 := sizeLine_eq
  unfold cmdsD at q ⊢
  rw [bin_addL]
  refine ⟨by rw [List.length_map, List.length_map]; omega, ?_⟩
  rw [← List.map_append]
  exact q
theorem beh11 {μ : Sto} {A G : Cells} {p : Nat × Cell} (h : HW μ (p :: (A ++ G))) : HW μ (A ++ (p :: G)) := h.perm List.perm_middle.symm
theorem w_law11 : ∀ ds μ Q QX, μ.wf → objBs μ.next ds = true → sp_law11 ds μ Q QX → ds.length = 1 ∧ wpS c_law11 (startE N_law11 ds) μ (outs μ.next Q QX) := by
  intro ds μ Q QX hw ho h
  unfold sp_law11 at h
  split at h
  · rename_i xs
    obtain ⟨ns, rfl, hl, h1⟩ := h
    refine ⟨rfl, ?_⟩
    have hsz : sizeLine = 16777216 := sizeLine_eq
    have est : startE N_law11 [.scr (ns.map .int)] = [some (.scr (ns.map .int)), none, none, none, none, none, none, none, none, none, none] := rfl
    rw [est]
    generalize hO : outs μ.next Q QX = O
    have hrt : ∀ μ', μ'.wf → μ.next ≤ μ'.next → O.rt (.bl true) μ' := fun μ' w n => by
      rw [← hO]
      exact fin_all w n rfl (h1 _)
    simp only [startE, wpS, wpT, wpE, wpA, wpI, wpG, wpGs, wpOpt, outs, wipeE, ePar, List.set, List.getElem?_cons_zero, List.getElem?_cons_succ, c_law11, eNew]
    have k0 := (HW.none hw).new0 (c := .ins 15 []) rfl
    refine ⟨[], k0, fun μ1 R1 k1 e1 n1 => ?_⟩
    have n1' : μ.next ≤ μ1.next := Nat.le_of_succ_le n1
    refine ⟨rfl, ?_⟩
    simp only [startE, wpS, wpT, wpE, wpA, wpI, wpG, wpGs, wpOpt, outs, wipeE, ePar, List.set, List.getElem?_cons_zero, List.getElem?_cons_succ, r1_law11]
    unfold eCal0
    refine ⟨cliC μ.next R1 ++ [], k1, fun μ2 kd k2 n2 => ?_⟩
    have k3 : HW μ2 (cliC μ.next R1 ++ FW kd) := beh11 k2
    have I0 : Idle R1.L 0 0 := by
      rw [e1]
      exact ⟨init_ok, rfl, rfl, rfl, rfl, rfl, rfl⟩
    simp only [startE, wpS, wpT, wpE, wpA, wpI, wpG, wpGs, wpOpt, outs, wipeE, ePar, List.set, List.getElem?_cons_zero, List.getElem?_cons_succ, r2_law11, r3_law11, r4_law11]
    refine ⟨by decide, ns, rfl, ?_⟩
    refine ⟨by decide, by decide, fun cs1 g1 l1 => ⟨by decide, ns, rfl, ⟨by decide, by decide, fun cs2 g2 l2 => ?_⟩⟩⟩
    refine add_cmds (by omega) ?_
    refine ⟨by decide, ns, rfl, ⟨by decide, by decide, fun cs3 g3 l3 => ?_⟩⟩
    refine add_cmds (by rw [List.length_append]; omega) ?_
    have gc : gens (cs1 ++ cs2 ++ cs3) := fun c m => by
      rcases List.mem_append.mp m with m | m
      · rcases List.mem_append.mp m with m | m
        · exact g1 c m
        · exact g2 c m
      · exact g3 c m
    have lc : (cs1 ++ cs2 ++ cs3).length ≤ 60 := by
      rw [List.length_append, List.length_append]
      omega
    generalize cs1 ++ cs2 ++ cs3 = cs at gc lc ⊢
    simp only [startE, wpS, wpT, wpE, wpA, wpI, wpG, wpGs, wpOpt, outs, wipeE, ePar, List.set, List.getElem?_cons_zero, List.getElem?_cons_succ, r5_law11]
    refine ⟨by decide, ns, rfl, ?_⟩
    generalize ns[(0 : Int).toNat]?.getD 0 = i3
    show binD .Mod (.int i3) (.int 102) μ2 _
    rw [b_mod]
    refine ⟨by decide, ?_⟩
    rw [b_add]
    have f102 := fmod_lt (a := i3) (b := 102) (by omega)
    obtain ⟨m, hm, hm2⟩ : ∃ m : Nat, (99 : Int) + i3.fmod 102 = ((99 + m : Nat) : Int) ∧ m < 102 := ⟨(i3.fmod 102).toNat, by omega, by omega⟩
    rw [hm]
    have hx := xs11 ⟨m, hm2⟩
    have hx1 : isStrg (repS "x" (99 + m)).cps.toList = true := hx.1
    have hx2 : (repS "x" (99 + m)).length ≤ 1000 := hx.2
    have lx : (Str.ofString "x").length = 1 := by decide +kernel
    refine ⟨⟨by omega, by omega, by rw [lx, Int.toNat_natCast]; omega⟩, by show 3 ≤ sizeLine; omega, by show 4 ≤ sizeLine; omega, by show 4 ≤ sizeLine; omega, by show 2 ≤ sizeLine; omega, ?_⟩
    rw [Int.toNat_natCast]
    unfold cmdsD
    rw [bin_addL]
    refine ⟨by rw [List.length_map]; show _ + 2 ≤ sizeLine; omega, ?_⟩
    -- each of them is right
    have ns' : isName (Str.ofString "s").cps.toList = true := by decide +kernel
    have np : isName (Str.ofString "p").cps.toList = true := by decide +kernel
    have right : ∀ d ∈ cs.map cmdD ++ [.tup [.str "prepare", .str "s", .str (repS "x" (99 + m))], .tup [.str "bind", .str "p", .str "s", .lst [.int 1, .str "b", .int 3, .str "d"]]], ∀ μ', okCmd11 μ' d := fun d md μ' => by
      rcases List.mem_append.mp md with md | md
      · obtain ⟨c, mc, rfl⟩ := List.mem_map.mp md
        exact ⟨c, cmd11 (genC_GC11 (gc c mc)), genC_GC11 (gc c mc)⟩
      · simp only [List.mem_cons, List.not_mem_nil, or_false] at md
        rcases md with rfl | rfl
        · have g : GC (.cmd (.prepare "s" (repS "x" (99 + m)))) := ⟨GT.of_name ns', GT.of_strg hx1⟩
          exact ⟨_, cmd11 g, g⟩
        · have e : cmdB11 (.tup [.str "bind", .str "p", .str "s", .lst [.int 1, .str "b", .int 3, .str "d"]]) = some (some (.bind "p" "s" [.inl 1, .inr "b", .inl 3, .inr "d"])) := by kernel_rfl
          have tb : isText (Str.ofString "b").cps.toList = true := by decide +kernel
          have td : isText (Str.ofString "d").cps.toList = true := by decide +kernel
          refine ⟨_, cmdB11_ok e μ', ⟨GT.of_name np, GT.of_name ns', fun k mk => ?_, by decide⟩⟩
          simp only [List.mem_cons, List.not_mem_nil, or_false] at mk
          rcases mk with rfl | rfl | rfl | rfl
          · exact ⟨by decide, by decide⟩
          · exact GT.of_text tb
          · exact ⟨by decide, by decide⟩
          · exact GT.of_text td
    have hlen : (cs.map cmdD ++ [D.tup [.str "prepare", .str "s", .str (repS "x" (99 + m))], .tup [.str "bind", .str "p", .str "s", .lst [.int 1, .str "b", .int 3, .str "d"]]]).length ≤ 62 := by
      rw [List.length_append, List.length_map]
      show cs.length + 2 ≤ 62
      omega
    generalize cs.map cmdD ++ [D.tup [.str "prepare", .str "s", .str (repS "x" (99 + m))], .tup [.str "bind", .str "p", .str "s", .lst [.int 1, .str "b", .int 3, .str "d"]]] = X at right hlen ⊢
    simp only [startE, wpS, wpT, wpE, wpA, wpI, wpG, wpGs, wpOpt, outs, wipeE, ePar, List.set, List.getElem?_cons_zero, List.getElem?_cons_succ, r6_law11]
    rw [it_lst]
    generalize ha : ns[(3 : Int).toNat]?.getD 0 = a
    refine for_gen (fun i δ μ' => ∃ R c h o6 o9 o10, δ = [some (.scr (ns.map .int)), some (.obj μ.next), some (.lst (wrongL kd)), some (.int (c : Nat)), some (.int (h : Nat)), some (.lst X), o6, none, none, o9, o10] ∧ HW μ' (cliC μ.next R ++ FW kd) ∧ Idle R.L c h ∧ c ≤ 20 ∧ oft11 a c h i ∧ μ2.next ≤ μ'.next)
      ⟨R1, 0, 0, none, none, none, rfl, k3, I0, Nat.zero_le _, ?_, Nat.le_refl _⟩ ?_ ?_
    · unfold oft11
      by_cases hz : (a + ((0 : Nat) : Int)) % 23 = 0
      · exact .inr (.inl ⟨rfl, hz, by omega⟩)
      · exact .inr (.inr ⟨rfl, hz, by omega⟩)
    · rintro i x LW hx hLW δ μ' ⟨R, c, h, o6, o9, o10, rfl, k4, I4, c20, f4, n4⟩
      have hil := (List.getElem?_eq_some_iff.mp hx).1
      refine ⟨trivial, ?_⟩
      simp only [startE, wpS, wpT, wpE, wpA, wpI, wpG, wpGs, wpOpt, outs, wipeE, ePar, List.set, List.getElem?_cons_zero, List.getElem?_cons_succ, b1_law11]
      refine ⟨by decide, ns, rfl, ?_⟩
      rw [ha]
      show binD .Mult (.int 7) (.int (c : Nat)) μ' _
      rw [b_mul]
      refine ⟨cmul_l (by omega) (by omega), ?_⟩
      rw [b_add]
      show binD .Add (.int (a + 7 * (c : Nat))) (.int (h : Nat)) μ' _
      rw [b_add]
      refine turn11 (i := i) k4 I4 c20 f4 (by omega) (right x (List.mem_of_getElem? hx)) fun μ5 R5 c5 h5 o9 o10 k5 I5 c5' f5 n5 => ?_
      exact hLW _ _ ⟨R5, c5, h5, _, _, _, rfl, k5, I5, c5', f5, by omega⟩
    · rintro δ μ' ⟨R, c, h, o6, o9, o10, rfl, k4, I4, c20, f4, n4⟩
      refine ⟨trivial, ?_⟩
      have h46 : h < 47 := by
        unfold oft11 at f4
        omega
      simp only [startE, wpS, wpT, wpE, wpA, wpI, wpG, wpGs, wpOpt, outs, wipeE, ePar, List.set, List.getElem?_cons_zero, List.getElem?_cons_succ, r7_law11]
      refine ⟨by decide, ns, rfl, ?_⟩
      generalize ns[(4 : Int).toNat]?.getD 0 = i4
      show binD .Mod (.int i4) (.int 7) μ' _
      rw [b_mod]
      refine ⟨by decide, ?_⟩
      rw [b_add]
      have f7 := fmod_lt (a := i4) (b := 7) (by omega)
      obtain ⟨N, hN, hN2, hN3⟩ : ∃ N : Nat, (47 : Int) + i4.fmod 7 = (N : Int) ∧ 47 ≤ N ∧ N ≤ 53 := ⟨(47 + i4.fmod 7).toNat, by omega, by omega, by omega⟩
      rw [hN]
      refine ⟨⟨by omega, by omega, by omega, by omega⟩, ?_⟩
      rw [show ((N : Int) - (h : Int)).toNat = N - h by omega]
      exact more11 (c := c) (xc := fun _ _ => True) k4 I4 hN2 hN3 h46 (fun μ6 w n => hrt μ6 w (by omega)) fun _ => trivial
  · exact h.elim
theorem law_spec11 (ns : List Int) (hl : ns.length ≤ 63) (hb : ∀ z ∈ ns, Builtin.Int.intBits z ≤ 1048576) (QM : Post) (hQ : ∀ μ, QM (.bl true) μ) : sp_law11 [.scr (ns.map .int)] ⟨0, fun _ => none⟩ QM (fun _ _ => False) := ⟨ns, rfl, hl, hQ⟩
end M
end
section
namespace M
open PySem PySem.Spec PyProof.Rows L2
section
variable {B : Bs} {T : List Addr} {cls : Nat → Addr} {k : Nat}
theorem fun_of {K : PySem.W.Frag} {x qual : Str} {st : Stmt} {f : Addr} {fd : FuncData} (F : FunD K x qual (defArgs st) (defBody st) (defScope st) [] [] f fd) : Fun K x qual st f fd := by
  obtain ⟨oc, od, dV, kV, doc, pm, an, cdv, ct, osl, rfl, lk, hcd, hD, _⟩ := F.ex
  rcases hD with ⟨_, rfl⟩ | ⟨e, _⟩
  · exact ⟨⟨oc, od, kV, doc, pm, an, cdv, ct, osl, rfl, lk, hcd⟩, F.kp⟩
  · exact absurd rfl e
theorem cal_fn {x : Str} {f : Addr} {fd : FuncData} {ps : List Str} {sp : Spec} {j : Nat} (F : FnOk B.P B.w B.K B.mg B.base (L2N.CX B.P B.w) j f fd ps (lift ⟨B.K, T, cls⟩ sp)) (hm : B.mg x = some (.ref f)) (kp : PySem.W.keepIn B.K (.ref f) = true) (b : Binds B.K fd ps []) (hd : (x == ("__debug__" : Str)) = false) :
    ∀ k, j ≤ k → CalC B T cls k x sp := fun k hk =>
  .inl ⟨f, fd, ps, sp, [], [], [], hm, kp, hd, F.mono hk, b, .nil, fun _ => rfl, fun ds μ Q E h => by rw [List.append_nil]; exact h⟩
theorem fc_fn {x : Str} {f : Addr} {fd : FuncData} {ps : List Str} {sp : Spec} {j : Nat} (F : FnOk B.P B.w B.K B.mg B.base (L2N.CX B.P B.w) j f fd ps (lift ⟨B.K, T, cls⟩ sp)) (hm : B.mg x = some (.ref f)) (kp : PySem.W.keepIn B.K (.ref f) = true) (b : Binds B.K fd ps []) (hd : (x == ("__debug__" : Str)) = false) :
    ∀ k, j ≤ k → FnC B T cls k x sp := fun k hk =>
  ⟨f, fd, ps, sp, [], [], [], hm, kp, hd, F.mono hk, b, .nil, fun _ => rfl, fun ds μ Q E h => by rw [List.append_nil]; exact h⟩
theorem code_link {K : PySem.W.Frag} {x : Str} {st : Stmt} {qual : Str} {c : Addr} (h : linkB K x c = true) {oc : Value} {od : Option Addr} {kV doc pm cdv ct : Value} {an : Option Addr} {osl : Array (Option Value)}
    (lk : K.lookup (He.ga K x) = some ⟨oc, od, .func (PySem.W.fnOf x qual (defArgs st) (defBody st) (defScope st) .none kV doc pm an cdv ct), osl⟩) : cdv = .ref c := linkB_ok h lk
theorem fn_okD {x qual : Str} {st : Stmt} {f : Addr} {fd : FuncData} {N ps : List Str} {sp : Spec} {c : IR} {dvs : List V} (F : FunD B.K x qual (defArgs st) (defBody st) (defScope st) dvs [] f fd) (S : FnScope N ps (defScope st)) (hc : chkB N c (defScope st) (defBody st) = true) (ok : okS B T cls k False c)
    (hld : lamK (defScope st) = false)
    (h : ∀ ds μ Q QX, μ.wf → objBs μ.next ds = true → sp ds μ Q QX → ds.length = ps.length ∧ wpS c (startE N ds) μ (outs μ.next Q QX)) (hl : ∀ ds μ Q QX, sp ds μ Q QX → ds.length = ps.length) (hk2 : k % 2 = 0 := by decide) : FnOk B.P B.w B.K B.mg B.base (L2N.CX B.P B.w) (k + 1) f fd ps (lift ⟨B.K, T, cls⟩ sp) := by
  obtain ⟨oc, od, dV, kV, doc, pm, an, cdv, ct, osl, rfl, lk, hcode, _, _⟩ := F.ex
  refine fn_of lk hcode S (fun vs H Q E h => ?_) fun A outer s H vs Q E hr hsp => ?_
  · obtain ⟨S0, ds, QM, QX, rfl, R, r, hs, _, _⟩ := h
    rw [r.length]
    exact hl _ _ _ _ hs
  · obtain ⟨S0, ds, QM, QX, rfl, R, r, hs, hq, hx⟩ := hsp
    obtain ⟨_, hw⟩ := h ds S0.μ QM QX R.wf r.objB hs
    refine ⟨DS ⟨B.K, T, cls⟩ (fun cl d _ H => E cl d H) c, ?_, ?_⟩
    · exact sndB (B := B) (k := k) (cd := False) (X := cxOf (L2N.CX B.P B.w) B.P B.w B.K B.mg B.base N qual (defScope st) f cdv A outer s S0.H E) c ⟨rfl, ⟨rfl, S.nd, hr, (fun _ _ _ => rfl), fun _ => ⟨rfl, rfl⟩⟩, fun z => z.elim, L2N.takes_of rfl rfl rfl rfl, (fun h => by cases h), fun _ => S.kind, (fun _ e => by
        have e : lamK (defScope st) = true := e
        rw [hld] at e
        cases e), fun z => by omega⟩ (passes_of rfl) ok hc
    · refine ⟨S0, startE N ds, outs S0.μ.next QM QX, rfl, R, env_start r, hw, ?_⟩
      have fin : ∀ S' d v, S0.le S' → Rl ⟨B.K, T, cls⟩ S' → Rep B.K S'.vw d v → finP S0.μ.next QM d S'.μ → Q v S'.H := by
        rintro S' d v l R' r' ⟨μ1, hn, hp, ho, q⟩
        obtain ⟨hx1, R1⟩ := R'.part hp
        exact hq { S' with μ := μ1 } d v ⟨⟨l.1.1.trans hx1, l.1.2.1, hn⟩, l.2⟩ R1 (Rep.down (w := S'.vw) (w' := Ss.vw { S' with μ := μ1 }) hx1 (fun _ _ => rfl) r' ho) q
      refine ⟨fun S' δ' σ' l R' _ q => fin S' .non .non l R' rfl q, fun S' d v l R' r' q => fin S' d v l R' r' q, fun _ _ _ _ _ _ q => q.elim, fun _ _ _ _ _ _ q => q.elim, ?_⟩
      rintro S' x δ' σ' l R' _ ⟨μ1, hn, hp, q⟩
      obtain ⟨hx1, R1⟩ := R'.part hp
      exact hx { S' with μ := μ1 } x ⟨⟨l.1.1.trans hx1, l.1.2.1, hn⟩, l.2⟩ R1 q
theorem fn_okS {d : SupD} {fd fd2 : FuncData} {N : List Str} {sp sp0 : Spec} {c : IR} {cn : Nat} {z : Str} {p0 p1 p2 p3 ap cp : Pos} {j : Nat} {ar : Arg} {rest : List Stmt} {ps2 : List Str} (F : FunS B.K d fd) (hcls : He.ga B.K d.at_.1 = cls cn)
    (hb : d.body = .Expr (.Call (.Attribute (.Call (.Name "super" p0) [] [] p1) "__init__" ap) [.Constant (.str z) j cp] [] p2) p3 :: rest) (hpar : (d.params.posonlyargs ++ d.params.args).head? = some ar) (har : ar.arg = "self") (hap : (ap.endLine == p2.line) = true)
    (S : ScS N d.scope) (m1 : B.mg "super" = none) (m2 : (B.P.main.scope.names.lookup ("super" : Str)).isSome = false) (m3 : B.P.main.file = d.file)
    (F0 : FnOk B.P B.w B.K B.mg B.base (L2N.CX B.P B.w) k (He.ma B.K (He.ga B.K d.bas) "__init__") fd2 ps2 (lift ⟨B.K, T, cls⟩ sp0)) (b0 : Binds B.K fd2 ps2 [])
    (hc : chkB N c d.scope rest = true) (ok : okS B T cls k False c) (hld : lamK d.scope = false)
    (h : ∀ ds μ Q QX, μ.wf → objBs μ.next ds = true → sp ds μ Q QX → ∃ i fs, ds = [.obj i] ∧ μ.cell i = some (.ins cn fs) ∧ sp0 [.obj i, .str z] μ (fun _ μ1 => wpS c (startE N [.obj i]) μ1 (outs μ.next Q QX)) QX)
    (hl : ∀ ds μ Q QX, sp ds μ Q QX → ds.length = 1) (hk2 : k % 2 = 0 := by decide) : FnOk B.P B.w B.K B.mg B.base (L2N.CX B.P B.w) (k + 1) (He.fAd B.K d.at_) fd ["self"] (lift ⟨B.K, T, cls⟩ sp) := by
  obtain ⟨oc, od, kV, doc, pm, ct, an, cda, cc, osl, rfl, lk, hcode, hU⟩ := F.ex
  rw [hb] at lk ⊢
  refine fn_super (C := He.ga B.K d.at_.1) (D := He.ga B.K d.at_.1) (sp0 := fun vs H Q E => lift ⟨B.K, T, cls⟩ sp0 (vs ++ []) H Q E) lk hcode S hpar har hap (hU B.P B.mg m1 m2 m3) (F0.raw b0 .nil) (fun A outer s H E => ?_) (fun vs H Q E h => ?_) fun A outer s H v Q E hr hsp => ?_
  · exact L2N.passes_call (L2N.takes_of rfl rfl rfl rfl) fun _ _ _ _ h => h
  · obtain ⟨S0, ds, QM, QX, rfl, R, r, hs, _, _⟩ := h
    rw [r.length]
    exact hl _ _ _ _ hs
  · obtain ⟨S0, ds, QM, QX, rfl, R, r, hs, hq, hx⟩ := hsp
    obtain ⟨i, fs, rfl, hcell, hs0⟩ := h ds S0.μ QM QX R.wf r.objB hs
    have rv : Rep B.K S0.vw (.obj i) v := by
      obtain ⟨v', vs', e1, e2, _⟩ := r
      cases e1
      exact e2
    obtain ⟨ri, rfl⟩ : i < S0.vw.n ∧ v = .ref (S0.vw.ρ i) := rv
    obtain ⟨dx, es, hins, _⟩ : ∃ dx es, S0.H (S0.ρ i) = some (.ins (cls cn) dx es) ∧ RepP B.K S0.vw fs es := R.ok i _ hcell
    refine ⟨_, dx, es, DS ⟨B.K, T, cls⟩ (fun cl d _ H => E cl d H) c, rfl, by
      rw [hcls]
      exact hins, ?_, ?_⟩
    · exact sndB (B := B) (k := k) (cd := False) (X := cxS (L2N.CX B.P B.w) B.P B.w B.K B.mg B.base N d.qual d.scope (He.fAd B.K d.at_) (.ref cda) cc A outer s S0.H E) c ⟨rfl, ⟨rfl, S.nd, hr, (fun _ x hx => absurd rfl (S.nocell _ (PySem.mem_of_lookup hx))), fun _ => ⟨rfl, rfl⟩⟩, fun z => z.elim, L2N.takes_of rfl rfl rfl rfl, (fun h => by cases h), fun _ => S.kind, (fun _ e => by
        have e : lamK d.scope = true := e
        rw [hld] at e
        cases e), fun z => by omega⟩ (passes_of rfl) ok hc
    · refine ⟨S0, [.obj i, .str z], _, QX, rfl, R, ⟨_, _, rfl, ⟨ri, rfl⟩, _, _, rfl, rfl, rfl⟩, hs0, ?_, hx⟩
      intro S1 d1 v1 l1 R1 r1 q1
      have r2 : Reps B.K S1.vw [.obj i] [.ref (S0.vw.ρ i)] := ⟨_, _, rfl, ⟨Nat.lt_of_lt_of_le ri l1.1.2.2, congrArg V.ref (l1.1.2.1 i ri).symm⟩, rfl⟩
      refine ⟨S1, startE N [.obj i], outs S0.μ.next QM QX, rfl, R1, env_start r2, q1, ?_⟩
      have fin : ∀ {S' d v}, S1.le S' → Rl ⟨B.K, T, cls⟩ S' → Rep B.K S'.vw d v → finP S0.μ.next QM d S'.μ → Q v S'.H := by
        rintro S' d v l R' r' ⟨μ1, hn, hp, ho, q⟩
        have l := l1.trans l
        obtain ⟨hx1, R1⟩ := R'.part hp
        exact hq { S' with μ := μ1 } d v ⟨⟨l.1.1.trans hx1, l.1.2.1, hn⟩, l.2⟩ R1 (Rep.down (w := S'.vw) (w' := Ss.vw { S' with μ := μ1 }) hx1 (fun _ _ => rfl) r' ho) q
      refine ⟨fun S' δ' σ' l R' _ q => fin (v := .non) (d := .non) l R' rfl q, fun S' d v l R' r' q => fin l R' r' q, fun _ _ _ _ _ _ q => q.elim, fun _ _ _ _ _ _ q => q.elim, ?_⟩
      rintro S' x δ' σ' l R' _ ⟨μ1, hn, hp, q⟩
      have l := l1.trans l
      obtain ⟨hx1, R1⟩ := R'.part hp
      exact hx { S' with μ := μ1 } x ⟨⟨l.1.1.trans hx1, l.1.2.1, hn⟩, l.2⟩ R1 q
def isSup (z : Str) : List Stmt → Bool
  | .Expr (.Call (.Attribute (.Call (.Name n _) [] [] _) i ap) [.Constant (.str y) _ _] [] p2) _ :: _ => decide (n = "super") && (decide (i = "__init__") && (decide (y = z) && (ap.endLine == p2.line)))
  | _ => false
theorem isSup_ok {z : Str} {b : List Stmt} (h : isSup z b = true) : ∃ p0 p1 ap j cp p2 p3, b = .Expr (.Call (.Attribute (.Call (.Name "super" p0) [] [] p1) "__init__" ap) [.Constant (.str z) j cp] [] p2) p3 :: b.tail ∧ (ap.endLine == p2.line) = true := by
  unfold isSup at h
  split at h
  · rename_i n p0 p1 i ap y j cp p2 p3 rest
    rw [Bool.and_eq_true, Bool.and_eq_true, Bool.and_eq_true, decide_eq_true_eq, decide_eq_true_eq, decide_eq_true_eq] at h
    obtain ⟨rfl, rfl, rfl, h4⟩ := h
    exact ⟨p0, p1, ap, j, cp, p2, p3, rfl, h4⟩
  · cases h
def selfHd (ps : Arguments) : Bool := match (ps.posonlyargs ++ ps.args).head? with
  | some a => decide (a.arg = "self")
  | none => false
theorem fn_okS' {d : SupD} {fd fd2 : FuncData} {N : List Str} {sp sp0 : Spec} {c : IR} {cn : Nat} {z : Str} {ps2 : List Str} (F : FunS B.K d fd) (hcls : He.ga B.K d.at_.1 = cls cn)
    (hb : isSup z d.body = true) (hpar : selfHd d.params = true)
    (S : ScS N d.scope) (m1 : B.mg "super" = none) (m2 : (B.P.main.scope.names.lookup ("super" : Str)).isSome = false) (m3 : B.P.main.file = d.file)
    (F0 : FnOk B.P B.w B.K B.mg B.base (L2N.CX B.P B.w) k (He.ma B.K (He.ga B.K d.bas) "__init__") fd2 ps2 (lift ⟨B.K, T, cls⟩ sp0)) (b0 : Binds B.K fd2 ps2 [])
    (hc : chkB N c d.scope d.body.tail = true) (ok : okS B T cls k False c) (hld : lamK d.scope = false)
    (h : ∀ ds μ Q QX, μ.wf → objBs μ.next ds = true → sp ds μ Q QX → ∃ i fs, ds = [.obj i] ∧ μ.cell i = some (.ins cn fs) ∧ sp0 [.obj i, .str z] μ (fun _ μ1 => wpS c (startE N [.obj i]) μ1 (outs μ.next Q QX)) QX)
    (hl : ∀ ds μ Q QX, sp ds μ Q QX → ds.length = 1) (hk2 : k % 2 = 0 := by decide) : FnOk B.P B.w B.K B.mg B.base (L2N.CX B.P B.w) (k + 1) (He.fAd B.K d.at_) fd ["self"] (lift ⟨B.K, T, cls⟩ sp) := by
  obtain ⟨p0, p1, ap, j, cp, p2, p3, e, hap⟩ := isSup_ok hb
  unfold selfHd at hpar
  split at hpar
  · rename_i ar har
    exact fn_okS F hcls e har (of_decide_eq_true hpar) hap S m1 m2 m3 F0 b0 hc ok hld h hl hk2
  · cases hpar
theorem me_fn {c : Nat} {m : Str} {f : Addr} {fd : FuncData} {ps : List Str} {sp : Spec} {j : Nat} (hc : Cls B.K (cls c)) (M : Meth B.K (cls c) m f) (F : FnOk B.P B.w B.K B.mg B.base (L2N.CX B.P B.w) j f fd ps (lift ⟨B.K, T, cls⟩ sp)) (b : Binds B.K fd ps []) :
    ∀ k, j ≤ k → MeC B T cls k c m sp := fun k hk => ⟨hc, f, fd, ps, sp, [], [], [], M, F.mono hk, b, .nil, fun _ => rfl, fun ds μ Q E h => by rw [List.append_nil]; exact h⟩
theorem one_met {c0 : Nat} {m : Str} {sp0 : Spec} (h : MeC B T cls k c0 m sp0) : ∀ c sp, ([(c0, sp0)] : List (Nat × Spec)).lookup c = some sp → MeC B T cls k c m sp := fun c sp e => by
  rw [List.lookup_cons] at e
  cases hc : c == c0 with
  | true =>
    rw [hc] at e
    cases e
    rw [eq_of_beq hc]
    exact h
  | false =>
    rw [hc] at e
    cases e
theorem pr_fn {c : Nat} {d : PrpD} {fd : FuncData} {sp : Spec} {j : Nat} (hc : Cls B.K (cls c)) (hcls : He.ga B.K d.cls = cls c) (P : PrpK B.K d fd) (F : FnOk B.P B.w B.K B.mg B.base (L2N.CX B.P B.w) j (d.gad B.K) fd ["self"] (lift ⟨B.K, T, cls⟩ sp)) (b : Binds B.K fd ["self"] []) :
    ∀ k, j ≤ k → PrC B T cls k c d.f sp := fun k hk => ⟨hc, d.pa B.K, d.gad B.K, fd, by rw [← hcls]; exact P.pr, F.mono hk, b⟩
theorem one_prp {k c0 : Nat} {m : Str} {sp0 : Spec} (h : PrC B T cls k c0 m sp0) : ∀ c sp, ([(c0, sp0)] : List (Nat × Spec)).lookup c = some sp → PrC B T cls k c m sp := fun c sp e => by
  rw [List.lookup_cons] at e
  cases hc : c == c0 with
  | true =>
    rw [hc] at e
    cases e
    rw [eq_of_beq hc]
    exact h
  | false =>
    rw [hc] at e
    cases e
theorem me_fnD {c : Nat} {m : Str} {f : Addr} {fd : FuncData} {ps : List Str} {sp : Spec} {j : Nat} {dd : List D} {vv : List V} (hc : Cls B.K (cls c)) (M : Meth B.K (cls c) m f) (F : FnOk B.P B.w B.K B.mg B.base (L2N.CX B.P B.w) j f fd ps (lift ⟨B.K, T, cls⟩ sp)) (b : ∃ ds, Vals vv ds ∧ Binds B.K fd ps ds) (hr : ∀ w, Reps B.K w dd vv) :
    ∀ k, j ≤ k → MeC B T cls k c m (spD sp dd) := fun k hk => by
  obtain ⟨ds, hv, hb⟩ := b
  exact ⟨hc, f, fd, ps, sp, dd, vv, ds, M, F.mono hk, hb, hv, hr, fun ds μ Q E h => h⟩
theorem nw_fn {x : Str} {c : Nat} {f : Addr} {fd : FuncData} {ps : List Str} {sp : Spec} {j : Nat} (hm : B.mg x = some (.ref (cls c))) (hd : (x == ("__debug__" : Str)) = false) (M : Mk B.K (cls c) f) (F : FnOk B.P B.w B.K B.mg B.base (L2N.CX B.P B.w) j f fd ps (lift ⟨B.K, T, cls⟩ sp)) (b : Binds B.K fd ps []) :
    ∀ k, j + 1 ≤ k → NwC B T cls k x c sp := fun k hk => ⟨j, f, fd, ps, sp, [], [], [], hk, hm, hd, M, F, b, .nil, fun _ => rfl, fun ds μ Q E h => by rw [List.append_nil]; exact h⟩
theorem binds_full {K : PySem.W.Frag} {fd : FuncData} {ps : List Str} (b : ∃ ds, Vals ([] : List V) ds ∧ Binds K fd ps ds) : Binds K fd ps [] := by
  obtain ⟨ds, hv, hb⟩ := b
  cases hv
  exact hb
theorem law_start {H : Hp} {a : Addr} {ns : List Int} {K : PySem.W.Frag} {sp : Spec} (hT : ∀ p ∈ T, H p = some (.tbl #[])) (hL : cls 1000 ≠ 0 → cls 1000 ∉ T ∧ H (cls 1000) = some (.tbl #[])) (hS : SqL K H a (ns.map V.int)) (h : ∀ (QM : Post), (∀ μ, QM (.bl true) μ) → sp [.scr (ns.map .int)] ⟨0, fun _ => none⟩ QM (fun _ _ => False)) :
    lift ⟨K, T, cls⟩ sp [.ref a] H (fun v _ => v = .bl true) fun _ _ _ => False := by
  have eh : hid ⟨fun _ => 0, ⟨0, fun _ => none⟩, H, fun _ => none⟩ = H := by
    funext b
    unfold hid
    rw [if_neg]
    rintro (⟨k, c, h1, _⟩ | ⟨o, h1⟩)
    · cases h1
    · cases h1
  refine ⟨⟨fun _ => 0, ⟨0, fun _ => none⟩, H, fun _ => none⟩, [.scr (ns.map .int)], fun d _ => d = .bl true, fun _ _ => False, rfl, ⟨fun k j c d h1 => (by cases h1), fun k c h1 => (by cases h1), fun k c h1 => (by cases h1), fun b hb => ⟨#[], by rw [eh]; exact hT b hb, ?_⟩, fun b o h1 => (by cases h1), fun z => ⟨(hL z).1, LamX.TabS.nil (by rw [eh]; exact (hL z).2)⟩⟩, ?_, h _ fun _ => rfl, ?_, fun S' x _ _ q => q.elim⟩
  · exact trivial
  · refine ⟨.ref a, [], rfl, ⟨a, ns.map V.int, rfl, ?_, ?_⟩, rfl⟩
    · show SqL K (hid _) a _
      rw [eh]
      exact hS
    · clear hS h
      induction ns with
      | nil => rfl
      | cons n ns ih => exact ⟨.int n, ns.map V.int, rfl, rfl, ih⟩
  · intro S' d v _ _ r q
    have q : d = .bl true := q
    subst q
    exact r
theorem cx_false {P : Program} {w : World} {H : Hp} {s : Shared} {e : Value} {s' : Shared} (h : L2N.CX P w [] H s (fun _ _ _ => False) e s') : False := by
  obtain ⟨_, _, _, _, _, _, _, _, _, _, _, _, hE⟩ := h
  exact hE
end
end M
end
section
namespace M
open PySem PySem.Spec PyProof.Rows L2
structure FnRp (B : Bs) (k : Nat) (f : Addr) (fd : FuncData) (ps : List Str) (sp : Sp) : Prop where
  len : ∀ vs H Q E, sp vs H Q E → vs.length = ps.length
  go : ∀ (A : Around) (outer : List PySem.Env) (s : Shared) (H : Hp) (args : Args) (us : List Value) (vs : List V) (Q : VK) (E : XK), A.guards = some [] → Room k A → Env0 B.P B.w B.K B.mg B.base A outer s H → BindsTo s fd args (ps.zip us) → Vals vs us → sp vs H Q E →
    codeAny (model B.P B.w) A (.call (.ref f) args) (CR (L2N.CX B.P B.w) outer B.P B.w H s Q E) s
theorem FnRp.mono {B : Bs} {j k : Nat} {f : Addr} {fd : FuncData} {ps : List Str} {sp : Sp} (F : FnRp B j f fd ps sp) (h : j ≤ k) : FnRp B k f fd ps sp :=
  ⟨F.len, fun A outer s H args us vs Q E hg hr => F.go A outer s H args us vs Q E hg (hr.mono h)⟩
section
variable {B : Bs} {T : List Addr} {cls : Nat → Addr} {k : Nat} {cd : Prop}
theorem fn_okG {x qual : Str} {st : Stmt} {f : Addr} {fd : FuncData} {N ps : List Str} {sp : Spec} {c : IR} {cd : Prop} (F : Fun B.K x qual st f fd) (S : FnScope N ps (defScope st)) (hc : chkB N c (defScope st) (defBody st) = true) (ok : okS B T cls k cd c)
    (hcd : cd → ∀ cdv, PySem.W.codeIn B.K cdv qual = true → (∃ oc od kV doc pm an ct osl, B.K.lookup f = some ⟨oc, od, .func (PySem.W.fnOf x qual (defArgs st) (defBody st) (defScope st) .none kV doc pm an cdv ct), osl⟩) → ∃ c P, cdv = .ref c ∧ GxR.TabB B.base B.mg c P ∧ P ∈ T)
    (hld : lamK (defScope st) = false)
    (h : ∀ ds μ Q QX, μ.wf → objBs μ.next ds = true → sp ds μ Q QX → ds.length = ps.length ∧ wpS c (startE N ds) μ (outs μ.next Q QX)) (hl : ∀ ds μ Q QX, sp ds μ Q QX → ds.length = ps.length) : FnRp B (k + 1) f fd ps (lift ⟨B.K, T, cls⟩ sp) := by
  obtain ⟨oc, od, kV, doc, pm, an, cdv, ct, osl, rfl, lk, hcode⟩ := F.ex
  refine ⟨fun vs H Q E h => ?_, fun A outer s H args us vs Q E hg hr e0 hb r0 hsp => ?_⟩
  · obtain ⟨S0, ds, QM, QX, rfl, R, r, hs, _, _⟩ := h
    rw [r.length]
    exact hl _ _ _ _ hs
  · obtain ⟨S0, ds, QM, QX, rfl, R, r, hs, hq, hx⟩ := hsp
    obtain ⟨_, hw⟩ := h ds S0.μ QM QX R.wf r.objB hs
    have hvl : vs.length = ps.length := by
      rw [r.length]
      exact hl _ _ _ _ hs
    have kin : B.K.In s.heap := e0.mod.kin.keeps fun b o e => (e0.bs b o e).1
    have nolim : s.heap.NoLimit := e0.mod.nolimit.keeps fun b o e => (e0.bs b o e).1
    refine codeAny_call_function hr.depth (kin _ _ lk) rfl S.co S.gen rfl (PySem.W.codeRec_of kin hcode) (hb _ _ _ _ ?_)
    refine wpAny_newFunctionEnv_cells S.kind (fun ⟨n, u⟩ hy => ?_) fun env he s1 x1 => ?_
    · rcases S.par n (List.of_mem_zip hy).1 with q | q
      · exact .inl q
      · exact .inr ⟨q, PySem.W.cellsFrom_some _ _ _ (.inl q)⟩
    subst he
    refine ⟨nolim.keeps x1.toInCall.keep, codeAny_func ?_⟩
    have I : L2.Inv (cxOf (L2N.CX B.P B.w) B.P B.w B.K B.mg B.base N qual (defScope st) f cdv A outer s S0.H E) [] (start N vs) S0.H s1 := inv_start S hr.hd e0 hvl r0 x1
    have body : PSs (cxOf (L2N.CX B.P B.w) B.P B.w B.K B.mg B.base N qual (defScope st) f cdv A outer s S0.H E) (defBody st) (DS ⟨B.K, T, cls⟩ (fun cl d _ H => E cl d H) c) := by
      refine sndB (B := B) (k := k) (cd := cd) (X := cxOf (L2N.CX B.P B.w) B.P B.w B.K B.mg B.base N qual (defScope st) f cdv A outer s S0.H E) c ⟨rfl, ⟨rfl, S.nd, hr.deeper _, (fun _ _ _ => rfl), fun _ => ⟨rfl, rfl⟩⟩, fun z => ?_, L2N.takes_of rfl rfl rfl rfl, (fun h => by cases h), fun _ => S.kind, (fun _ e => by
        have e : lamK (defScope st) = true := e
        rw [hld] at e
        cases e), fun _ => hg⟩ (passes_of rfl) ok hc
      obtain ⟨c1, P, e1, tb, hP⟩ := hcd z cdv hcode ⟨oc, od, kV, doc, pm, an, ct, osl, lk⟩
      exact ⟨c1, P, e1, tb, hP⟩
    have wish : DS ⟨B.K, T, cls⟩ (fun cl d _ H => E cl d H) c { nx := fun _ H' => Q .non H', rt := Q } (start N vs) S0.H := by
      refine ⟨S0, startE N ds, outs S0.μ.next QM QX, rfl, R, env_start r, hw, ?_⟩
      have fin : ∀ S' d v, S0.le S' → Rl ⟨B.K, T, cls⟩ S' → Rep B.K S'.vw d v → finP S0.μ.next QM d S'.μ → Q v S'.H := by
        rintro S' d v l R' r' ⟨μ1, hn, hp, ho, q⟩
        obtain ⟨hx1, R1⟩ := R'.part hp
        exact hq { S' with μ := μ1 } d v ⟨⟨l.1.1.trans hx1, l.1.2.1, hn⟩, l.2⟩ R1 (Rep.down (w := S'.vw) (w' := Ss.vw { S' with μ := μ1 }) hx1 (fun _ _ => rfl) r' ho) q
      refine ⟨fun S' δ' σ' l R' _ q => fin S' .non .non l R' rfl q, fun S' d v l R' r' q => fin S' d v l R' r' q, fun _ _ _ _ _ _ q => q.elim, fun _ _ _ _ _ _ q => q.elim, ?_⟩
      rintro S' x δ' σ' l R' _ ⟨μ1, hn, hp, q⟩
      obtain ⟨hx1, R1⟩ := R'.part hp
      exact hx { S' with μ := μ1 } x ⟨⟨l.1.1.trans hx1, l.1.2.1, hn⟩, l.2⟩ R1 q
    refine wpAny_mono (body.run [] s1 (start N vs) S0.H _ I wish) (fun fl s' hs => ?_) fun e s' hs => hs
    match fl, hs with
    | .ret u, ⟨v, σ', H', J, rv, q⟩ => exact ⟨v, H', J.os, J.bare, J.base, J.hok, rv, q⟩
    | .next, ⟨σ', H', J, q⟩ => exact ⟨V.non, H', J.os, J.bare, J.base, J.hok, (rfl : RelV V.non Value.none), q⟩
    | .brk, ⟨_, _, _, q⟩ => exact q.elim
    | .cont, ⟨_, _, _, q⟩ => exact q.elim
end
end M
end
section
namespace M
open PySem PySem.Spec PyProof.Rows L2
def pic (T : List Addr) (a : Addr) (sc : Option HO) : Hp := fun b => if b ∈ T then some (.tbl #[]) else if b = a then sc else none
section
variable {T : List Addr} {a b : Addr} {sc : Option HO}
theorem pic_t (h : b ∈ T) : pic T a sc b = some (.tbl #[]) := if_pos h
theorem pic_a (h : a ∉ T) : pic T a sc a = sc := by
  unfold pic
  rw [if_neg h, if_pos rfl]
theorem pic_n (h : b ∉ T) (h2 : b ≠ a) : pic T a sc b = none := by
  unfold pic
  rw [if_neg h, if_neg h2]
theorem pic_or (b : Addr) : b ∈ T ∨ (b ∉ T ∧ b = a ∧ pic T a sc b = sc) ∨ (b ∉ T ∧ b ≠ a ∧ pic T a sc b = none) := by
  by_cases h : b ∈ T
  · exact .inl h
  · by_cases h2 : b = a
    · subst h2
      exact .inr (.inl ⟨h, rfl, pic_a h⟩)
    · exact .inr (.inr ⟨h, h2, pic_n h h2⟩)
end
theorem lawG_run {P : Program} {w : World} {K : PySem.W.Frag} {mg mb : Str → Option Value} {k : Nat} {fa a : Addr} {cs : List (Addr × Addr)} {fd : FuncData} {x : Str} {sp : Sp} {s : Shared} {vs : List Value} {ns : List Int}
    (kin : K.In s.heap) (gl : s.heap.Ns mainGlobals mg) (bn : s.heap.Ns builtinsNs mb) (bb : ∀ y : Str, y ≠ "__name__" → mb y = bootBuiltins y) (nl : s.heap.NoLimit) (gn : s.gens = #[])
    (tab : ∀ p ∈ cs, s.heap.get? p.2 = some { cls := .none, data := .fields #[] }) (tabK : ∀ p ∈ cs, K.lookup p.2 = none) (cod : ∀ p ∈ cs, PySem.W.CodeHd s.heap p.1 p.2)
    (bmod : ∃ (m : Addr) (o : Obj), mg "__builtins__" = some (.ref m) ∧ m ≠ builtinsNs ∧ s.heap.get? m = some o ∧ o.cls = .type "module" ∧ o.dict = some builtinsNs ∧ o.data = .plain)
    (scr : s.heap.get? a = some { cls := .type "list", data := .seq vs.toArray }) (inz : IntsAre vs ns) (len : ns.length ≤ sizeLine) (room : Room k callerA)
    (F : ∀ base : Heap, K.In base → base.Ns mainGlobals mg → (∀ p ∈ cs, LamX.TabB base mg p.1 p.2) → FnRp ⟨P, w, K, mg, base⟩ k fa fd [x] sp) (bd : ∀ (s : Shared) (u : Value), BindsTo s fd ⟨[u], []⟩ [(x, u)])
    (hsp : ∀ H : Hp, (∀ p ∈ cs, H p.2 = some (.tbl #[])) → SqL K H a (ns.map V.int) → sp [.ref a] H (fun v _ => v = .bl true) fun _ _ _ => False)
    (no : ∀ H e s', L2N.CX P w [] H s (fun _ _ _ => False) e s' → False) :
    codeAny (model P w) callerA (.call (.ref fa) ⟨[.ref a], []⟩) (fun r s' => r = .ok (.ret (.bool true)) ∧ OldK s.heap s'.heap ∧ s'.os = s.os ∧ AllBare s'.gens) s := by
  have vv := vals_ints inz
  have nvs : vs.length = ns.length := inz.length
  have hT : ∀ b ∈ cs.map (·.2), s.heap.get? b = some { cls := .none, data := .fields #[] } := fun b hb => by
    obtain ⟨p, hp, rfl⟩ := List.mem_map.mp hb
    exact tab p hp
  have nT : a ∉ cs.map (·.2) := fun z => by
    have q := (hT a z).symm.trans scr
    cases q
  obtain ⟨sc, hsc, hscK, hSq⟩ : ∃ sc : Option HO, (sc = none ∨ sc = some (.frz { cls := .type "list", data := .seq vs.toArray } (.lst (ns.map V.int)))) ∧ (sc ≠ none → K.lookup a = none) ∧ ∀ H : Hp, H a = sc → SqL K H a (ns.map V.int) := by
    cases e : K.lookup a with
    | none => exact ⟨_, .inr rfl, fun _ => rfl, fun H h => .inl (.inr ⟨_, h⟩)⟩
    | some o =>
      have q := (kin a o e).symm.trans scr
      cases q
      exact ⟨none, .inl rfl, fun z => absurd rfl z, fun H _ => .inr ⟨_, vs.toArray, _, e, rfl, rfl, rfl, by rw [List.size_toArray, nvs]; exact len, by simpa using vv⟩⟩
  have cases_ := fun b => pic_or (T := cs.map (·.2)) (a := a) (sc := sc) b
  have hok : HOk P w (pic (cs.map (·.2)) a sc) s.heap := fun b u e => by
    rcases cases_ b with h | ⟨h, rfl, h2⟩ | ⟨h, h1, h2⟩
    · rw [pic_t h] at e
      cases e
      exact hT b h
    · rw [h2] at e
      rcases hsc with z | z
      · rw [z] at e
        cases e
      · rw [z] at e
        cases e
        exact ⟨scr, by rw [List.length_map]; exact len, vs, _, vv, scr⟩
    · rw [h2] at e
      cases e
  -- what is neither a list nor an empty table is not tracked
  have free : ∀ {b : Addr} {o : Obj}, s.heap.get? b = some o → (∀ v n, o.data ≠ .seq v n) → o.data ≠ .fields #[] → pic (cs.map (·.2)) a sc b = none := fun {b o} e n1 n2 => by
    rcases cases_ b with h | ⟨h, rfl, h2⟩ | ⟨h, h1, h2⟩
    · have q := (hT b h).symm.trans e
      cases q
      exact absurd rfl n2
    · have q := scr.symm.trans e
      cases q
      exact absurd rfl (n1 _ _)
    · exact h2
  have keepN : ∀ {b : Addr} {m : Str → Option Value}, s.heap.Ns b m → (hidT s.heap (pic (cs.map (·.2)) a sc)).Ns b m := fun {b m} h => by
    obtain ⟨o, es, ep, e, d, r⟩ := h
    refine ⟨o, es, ep, hidT_get e (free e (fun v n z => ?_) fun z => ?_), d, r⟩ <;> (rw [d] at z; cases z)
  have keepK : K.In (hidT s.heap (pic (cs.map (·.2)) a sc)) := fun b o e => hidT_get (kin b o e) (by
    rcases cases_ b with h | ⟨h, rfl, h2⟩ | ⟨h, h1, h2⟩
    · obtain ⟨p, hp, rfl⟩ := List.mem_map.mp h
      rw [tabK p hp] at e
      cases e
    · rw [h2]
      rcases hsc with z | z
      · exact z
      · rw [hscK (by rw [z]; exact fun q => by cases q)] at e
        cases e
    · exact h2)
  have keepM : L2.Mod K mg (hidT s.heap (pic (cs.map (·.2)) a sc)) := ⟨keepK, keepN gl, ⟨mb, keepN bn, bb⟩, by
    obtain ⟨mc, q1, q2⟩ := nl
    exact ⟨mc, keepN q1, q2⟩⟩
  have keepT : ∀ p ∈ cs, LamX.TabB (hidT s.heap (pic (cs.map (·.2)) a sc)) mg p.1 p.2 := fun p hp => by
    refine ⟨?_, ?_, ?_⟩
    · have := cod p hp
      unfold PySem.W.CodeHd at this ⊢
      obtain ⟨o, us, y1, y2, y3, y4, y5, y6, y7, e, q1, q2, q3, more⟩ := this
      refine ⟨o, us, y1, y2, y3, y4, y5, y6, y7, hidT_get e (free e (fun v n z => ?_) fun z => ?_), q1, q2, q3, more⟩
      · rw [q2] at z
        cases z
      · rw [q2] at z
        cases z
        cases q3
    · obtain ⟨m, o, q1, q2, q3, q4, q5, q6⟩ := bmod
      have m1 : m ≠ mainGlobals := fun z => by
        obtain ⟨o', es, ep, e, d, _⟩ := gl
        rw [z, e] at q3
        cases q3
        rw [d] at q6
        cases q6
      have m2 : m ≠ p.2 := fun z => by
        rw [z, tab p hp] at q3
        cases q3
        cases q6
      refine ⟨m, o, q1, q2, m1, m2, hidT_get q3 (free q3 (fun v n z => ?_) fun z => ?_), q4, q5, q6⟩ <;> (rw [q6] at z; cases z)
    · intro z
      obtain ⟨o', es, ep, e, d, _⟩ := gl
      rw [z, tab p hp] at e
      cases e
      cases d
  have trT : ∀ p ∈ cs, pic (cs.map (·.2)) a sc p.2 = some (.tbl #[]) := fun p hp => pic_t (List.mem_map_of_mem hp)
  have env : Env0 P w K mg (hidT s.heap (pic (cs.map (·.2)) a sc)) callerA [] s (pic (cs.map (·.2)) a sc) :=
    { frames := rfl, mod := keepM, bs := fun b o e => of_hidT e, bsz := Nat.le_of_eq (hidT_size _ _), funs := trivial, frf := fun b hb => (by cases hb), hok := hok, bare := .of_eq gn }
  have go := (F _ keepK (keepN gl) keepT).go callerA [] s _ ⟨[.ref a], []⟩ [.ref a] [.ref a] (fun v _ => v = .bl true) (fun _ _ _ => False) rfl room env (bd s (.ref a)) (.cons rfl .nil) (hsp _ trT (hSq _ (pic_a nT)))
  refine codeAny_mono go fun r s' h => ?_
  match r, h with
  | .error e, h => exact (no _ e s' h).elim
  | .ok .next, h => exact h.elim
  | .ok .brk, h => exact h.elim
  | .ok .cont, h => exact h.elim
  | .ok (.ret u), ⟨v, H', hos, hbare, hun, hok', hrel, hv⟩ =>
    obtain rfl : v = .bl true := hv
    obtain rfl : u = Value.bool true := hrel
    have stay : ∀ b o, b ∉ cs.map (·.2) → s.heap.get? b = some o → s'.heap.get? b = some o := fun b o nb e => by
      rcases cases_ b with h | ⟨h, rfl, h2⟩ | ⟨h, h1, h2⟩
      · exact absurd h nb
      · rcases hsc with z | z
        · exact hun.keep b o e (h2.trans z) (fun q => by cases q) (by simp)
        · have q := hun.frzs b _ _ (h2.trans z)
          rw [scr] at e
          cases e
          exact (hok' b _ q).1
      · exact hun.keep b o e h2 (fun q => by cases q) (by simp)
    have grow : ∀ p ∈ cs, ∃ more : Array Value, s'.heap.get? p.2 = some { cls := .none, data := .fields more } := fun p hp => by
      obtain ⟨more, z⟩ := hun.tbls p.2 #[] (trT p hp)
      exact ⟨_, hok' p.2 _ z⟩
    refine ⟨rfl, ⟨fun b o e => ?_, fun b o e => ?_⟩, hos, hbare⟩ <;> by_cases hb : b ∈ cs.map (·.2)
    · obtain ⟨p, hp, rfl⟩ := List.mem_map.mp hb
      obtain ⟨more, hm⟩ := grow p hp
      have q := (tab p hp).symm.trans e
      cases q
      exact .inr (.inl ⟨((cod p hp).tab (tab p hp)).isCodeTable, rfl, #[], more, rfl, by rw [Array.empty_append]; exact hm⟩)
    · exact .inl (stay b o hb e)
    · obtain ⟨p, hp, rfl⟩ := List.mem_map.mp hb
      obtain ⟨more, hm⟩ := grow p hp
      exact ⟨_, hm⟩
    · exact ⟨o, stay b o hb e⟩
def LawG (l : PySem.W.OpenLaw) (w : World) (K : PySem.W.Frag) (k n : Nat) (x : Str) (mg : Str → Option Value) (fa : Addr) (h : Heap) : Prop :=
  ∃ (fd : FuncData) (cs : List (Addr × Addr)) (sp : Sp), (∀ p ∈ cs, h.get? p.2 = some { cls := .none, data := .fields #[] }) ∧ (∀ p ∈ cs, K.lookup p.2 = none) ∧ (∀ p ∈ cs, PySem.W.CodeHd h p.1 p.2) ∧ (∀ (s : Shared) (u : Value), BindsTo s fd ⟨[u], []⟩ [(x, u)]) ∧
    (∀ (H : Hp) (a : Addr) (ns : List Int), ns.length ≤ n → (∀ z ∈ ns, Builtin.Int.intBits z ≤ 1048576) → (∀ p ∈ cs, H p.2 = some (.tbl #[])) → SqL K H a (ns.map V.int) → sp [.ref a] H (fun v _ => v = .bl true) fun _ _ _ => False) ∧
    ∀ base : Heap, K.In base → base.Ns mainGlobals mg → (∀ p ∈ cs, LamX.TabB base mg p.1 p.2) → FnRp ⟨l.prog, w, K, mg, base⟩ k fa fd [x] sp
theorem walkG {l : PySem.W.OpenLaw} {n k : Nat} {q : Program} {loose : List Str} {XP : (Str → Option Value) → Heap → Prop} {YP : World → Heap → Prop} {d : DefRec} {x : Str}
    (hn : l.most = some n) (hn2 : n ≤ sizeLine) (hdf : d.params.defaults = []) (room : Room k callerA)
    (F : ∀ (w : World) (mg : Str → Option Value) (fa : Addr) (h : Heap), YP w h → h.Ns mainGlobals mg → mg d.name = some (.ref fa) → ∃ K : PySem.W.Frag, K.In h ∧ LawG l w K k n x mg fa h) :
    PySem.W.WalkO q loose XP YP l.row.toRowW d [] (fun f vs => PySem.call f vs) :=
  Att.attach_callB hn hdf fun w s₀ s₁ mg mb fa o pm cd doc a vs ns G Y _ _ _ hmg hobj hints hlen hbits hg => by
    obtain ⟨K, kin, fd, cs, sp, t1, t2, t3, bd, hs, hF⟩ := F w mg fa _ Y G.T.g hmg
    exact lawG_run kin G.T.g G.T.b G.T.builtins G.T.nolimit hg t1 t2 t3 G.T.bmain hobj hints (Nat.le_trans hlen hn2) room hF bd (fun H hH hS => hs H a ns hlen hbits hH hS) fun H e s' z => cx_false z
end M
end
section
namespace M
open PySem PySem.Spec PyProof.Rows L2
def isFnK (sc : Scope) : Bool := match sc.kind with
  | .function => true
  | _ => false
def scB (N P : List Str) (sc : Scope) : Bool := isFnK sc && (!sc.isCoroutine && (!sc.isGenerator && (decide N.Nodup && (decide (N.take P.length = P) && (decide (∀ x ∈ P, sc.names.lookup x = some .local ∨ sc.names.lookup x = some .cell) && decide (∀ y ∈ sc.names, y.2 ≠ .free))))))
theorem scOf {N P : List Str} {sc : Scope} (h : scB N P sc = true) : FnScope N P sc := by
  unfold scB at h
  simp only [Bool.and_eq_true, decide_eq_true_eq, Bool.not_eq_true'] at h
  obtain ⟨h1, h2, h3, h4, h5, h6, h7⟩ := h
  refine ⟨?_, h2, h3, h4, h5, h6, h7⟩
  unfold isFnK at h1
  split at h1
  · assumption
  · cases h1
def allB (N ps : List Str) (c : IR) (st : Stmt) : Bool := scB N ps (defScope st) && (chkB N c (defScope st) (defBody st) && !lamK (defScope st))
section
variable {B : Bs} {T : List Addr} {cls : Nat → Addr} {k : Nat}
theorem fn_okZ {x qual : Str} {st : Stmt} {f : Addr} {fd : FuncData} {N ps : List Str} {sp : Spec} {c : IR} (F : Fun B.K x qual st f fd)
    (h : ∀ ds μ Q QX, μ.wf → objBs μ.next ds = true → sp ds μ Q QX → ds.length = ps.length ∧ wpS c (startE N ds) μ (outs μ.next Q QX)) (ok : okS B T cls k False c) (hall : allB N ps c st = true := by decide +kernel) (hk2 : k % 2 = 0 := by decide) : FnOk B.P B.w B.K B.mg B.base (L2N.CX B.P B.w) (k + 1) f fd ps (lift ⟨B.K, T, cls⟩ sp) := by
  unfold allB at hall
  simp only [Bool.and_eq_true, Bool.not_eq_true'] at hall
  obtain ⟨hS, hc, hld⟩ := hall
  have S := scOf hS
  obtain ⟨oc, od, kV, doc, pm, an, cdv, ct, osl, rfl, lk, hcode⟩ := F.ex
  refine fn_of lk hcode S (fun vs H Q E hs => ?_) fun A outer s H vs Q E hr hsp => ?_
  · obtain ⟨S0, ds, QM, QX, rfl, R, r, hs, _, _⟩ := hs
    rw [r.length]
    exact (h _ _ _ _ R.wf r.objB hs).1
  · obtain ⟨S0, ds, QM, QX, rfl, R, r, hs, hq, hx⟩ := hsp
    obtain ⟨_, hw⟩ := h ds S0.μ QM QX R.wf r.objB hs
    refine ⟨DS ⟨B.K, T, cls⟩ (fun cl d _ H => E cl d H) c, ?_, ?_⟩
    · exact sndB (B := B) (k := k) (cd := False) (X := cxOf (L2N.CX B.P B.w) B.P B.w B.K B.mg B.base N qual (defScope st) f cdv A outer s S0.H E) c ⟨rfl, ⟨rfl, S.nd, hr, (fun _ _ _ => rfl), fun _ => ⟨rfl, rfl⟩⟩, fun z => z.elim, L2N.takes_of rfl rfl rfl rfl, (fun h => by cases h), fun _ => S.kind, (fun _ e => by
        have e : lamK (defScope st) = true := e
        rw [hld] at e
        cases e), fun z => by omega⟩ (passes_of rfl) ok hc
    · refine ⟨S0, startE N ds, outs S0.μ.next QM QX, rfl, R, env_start r, hw, ?_⟩
      have fin : ∀ S' d v, S0.le S' → Rl ⟨B.K, T, cls⟩ S' → Rep B.K S'.vw d v → finP S0.μ.next QM d S'.μ → Q v S'.H := by
        rintro S' d v l R' r' ⟨μ1, hn, hp, ho, q⟩
        obtain ⟨hx1, R1⟩ := R'.part hp
        exact hq { S' with μ := μ1 } d v ⟨⟨l.1.1.trans hx1, l.1.2.1, hn⟩, l.2⟩ R1 (Rep.down (w := S'.vw) (w' := Ss.vw { S' with μ := μ1 }) hx1 (fun _ _ => rfl) r' ho) q
      refine ⟨fun S' δ' σ' l R' _ q => fin S' .non .non l R' rfl q, fun S' d v l R' r' q => fin S' d v l R' r' q, fun _ _ _ _ _ _ q => q.elim, fun _ _ _ _ _ _ q => q.elim, ?_⟩
      rintro S' x δ' σ' l R' _ ⟨μ1, hn, hp, q⟩
      obtain ⟨hx1, R1⟩ := R'.part hp
      exact hx { S' with μ := μ1 } x ⟨⟨l.1.1.trans hx1, l.1.2.1, hn⟩, l.2⟩ R1 q
theorem at_ {P : Nat → Prop} {j k : Nat} (h : ∀ k, j ≤ k → P k) (hk : j ≤ k := by decide) : P k := h k hk
abbrev FO (B : Bs) (T : List Addr) (cls : Nat → Addr) (k : Nat) (f : Addr) (fd : FuncData) (ps : List Str) (sp : Spec) : Prop := FnOk B.P B.w B.K B.mg B.base (L2N.CX B.P B.w) k f fd ps (lift ⟨B.K, T, cls⟩ sp)
abbrev HC (B : Bs) (T : List Addr) (cls : Nat → Addr) (j : Nat) (x : Str) (sp : Spec) : Prop := ∀ k, j ≤ k → CalC B T cls k x sp
abbrev HF (B : Bs) (T : List Addr) (cls : Nat → Addr) (j : Nat) (x : Str) (sp : Spec) : Prop := ∀ k, j ≤ k → FnC B T cls k x sp
abbrev HM (B : Bs) (T : List Addr) (cls : Nat → Addr) (j c : Nat) (m : Str) (sp : Spec) : Prop := ∀ k, j ≤ k → MeC B T cls k c m sp
abbrev HP (B : Bs) (T : List Addr) (cls : Nat → Addr) (j c : Nat) (m : Str) (sp : Spec) : Prop := ∀ k, j ≤ k → PrC B T cls k c m sp
end
section
variable {K : PySem.W.Frag} {x qual : Str} {st : Stmt} {f : Addr} {fd : FuncData} {p1 p2 p3 p4 p5 p6 : Str}
theorem fb1 (F : Fun K x qual st f fd) (h : ∀ (kV doc pm : Value) (an : Option Addr) (cdv ct : Value) (a : Value), bindArgs (PySem.W.fnOf x qual (defArgs st) (defBody st) (defScope st) .none kV doc pm an cdv ct) ⟨[a], []⟩ = pure [(p1, a)]) : Binds K fd [p1] [] := F.binds fun kV doc pm an cdv ct us hl => match us, hl with | [a], _ => h kV doc pm an cdv ct a
theorem fb2 (F : Fun K x qual st f fd) (h : ∀ (kV doc pm : Value) (an : Option Addr) (cdv ct : Value) (a b : Value), bindArgs (PySem.W.fnOf x qual (defArgs st) (defBody st) (defScope st) .none kV doc pm an cdv ct) ⟨[a, b], []⟩ = pure [(p1, a), (p2, b)]) : Binds K fd [p1, p2] [] := F.binds fun kV doc pm an cdv ct us hl => match us, hl with | [a, b], _ => h kV doc pm an cdv ct a b
theorem fb3 (F : Fun K x qual st f fd) (h : ∀ (kV doc pm : Value) (an : Option Addr) (cdv ct : Value) (a b c : Value), bindArgs (PySem.W.fnOf x qual (defArgs st) (defBody st) (defScope st) .none kV doc pm an cdv ct) ⟨[a, b, c], []⟩ = pure [(p1, a), (p2, b), (p3, c)]) : Binds K fd [p1, p2, p3] [] := F.binds fun kV doc pm an cdv ct us hl => match us, hl with | [a, b, c], _ => h kV doc pm an cdv ct a b c
theorem fb4 (F : Fun K x qual st f fd) (h : ∀ (kV doc pm : Value) (an : Option Addr) (cdv ct : Value) (a b c d : Value), bindArgs (PySem.W.fnOf x qual (defArgs st) (defBody st) (defScope st) .none kV doc pm an cdv ct) ⟨[a, b, c, d], []⟩ = pure [(p1, a), (p2, b), (p3, c), (p4, d)]) : Binds K fd [p1, p2, p3, p4] [] := F.binds fun kV doc pm an cdv ct us hl => match us, hl with | [a, b, c, d], _ => h kV doc pm an cdv ct a b c d
end
section
variable {B : Bs} {T : List Addr} {cls : Nat → Addr}
theorem calZ {x qual : Str} {st : Stmt} {f : Addr} {fd : FuncData} {ps : List Str} {sp : Spec} {j : Nat} (F : Fun B.K x qual st f fd) (o : FnOk B.P B.w B.K B.mg B.base (L2N.CX B.P B.w) j f fd ps (lift ⟨B.K, T, cls⟩ sp)) (hm : B.mg x = some (.ref f)) (b : Binds B.K fd ps []) (hd : (x == ("__debug__" : Str)) = false := by decide) : HC B T cls j x sp := cal_fn o hm F.kp b hd
theorem meZ {x qual : Str} {st : Stmt} {c : Nat} {f : Addr} {fd : FuncData} {ps : List Str} {sp : Spec} {j : Nat} (F : Fun B.K x qual st f fd) (o : FnOk B.P B.w B.K B.mg B.base (L2N.CX B.P B.w) j f fd ps (lift ⟨B.K, T, cls⟩ sp)) (hc : Cls B.K (cls c)) (M : Meth B.K (cls c) x f) (b : Binds B.K fd ps []) : HM B T cls j c x sp := me_fn hc M o b
end
end M
end
section
namespace M
open PySem PySem.Spec PyProof.Rows L2
theorem sc_Client___init__ : ScS N_Client___init__ (defScope s_Client___init__) := ⟨rfl, rfl, rfl, by decide +kernel, rfl, by decide +kernel, by decide +kernel, by decide +kernel, by decide +kernel, by decide +kernel⟩
theorem k_Client___init__ : chkB N_Client___init__ c_Client___init__ (defScope s_Client___init__) (defBody s_Client___init__).tail = true := by decide +kernel
theorem sc_is_string : FnScope N_is_string ["value"] (defScope s_is_string) := ⟨rfl, rfl, rfl, by decide +kernel, rfl, by decide +kernel, by decide +kernel⟩
theorem k_is_string : chkB N_is_string c_is_string (defScope s_is_string) (defBody s_is_string) = true := by decide +kernel
theorem sc_is_name : FnScope N_is_name ["value"] (defScope s_is_name) := ⟨rfl, rfl, rfl, by decide +kernel, rfl, by decide +kernel, by decide +kernel⟩
theorem k_is_name : chkB N_is_name c_is_name (defScope s_is_name) (defBody s_is_name) = true := by decide +kernel
theorem sc_Client_run : FnScope N_Client_run ["self", "portal", "most"] (defScope s_Client_run) := ⟨rfl, rfl, rfl, by decide +kernel, rfl, by decide +kernel, by decide +kernel⟩
theorem k_Client_run : chkB N_Client_run c_Client_run (defScope s_Client_run) (defBody s_Client_run) = true := by decide +kernel
theorem sc__law_kinds : FnScope kindN ["_law_e"] (defScope s__law_kinds) := ⟨rfl, rfl, rfl, by decide +kernel, rfl, by decide +kernel, by decide +kernel⟩
theorem k__law_kinds : kindsC (defScope s__law_kinds) (defBody s__law_kinds) = true := by decide +kernel
theorem sc_law11 : FnScope N_law11 ["_law_script"] (defScope s_law11) := ⟨rfl, rfl, rfl, by decide +kernel, rfl, by decide +kernel, by decide +kernel⟩
theorem k_law11 : chkB N_law11 c_law11 (defScope s_law11) (defBody s_law11) = true := by decide +kernel
def clsL (K : PySem.W.Frag) (p0 : Addr) : Nat → Addr := fun i => if i = 0 then He.ga K "EndError" else if i = 1 then He.ga K "Unreadable" else if i = 2 then He.ga K "InvalidCommand" else if i = 3 then He.ga K "BatchFull" else if i = 4 then He.ga K "TooManyBatches" else if i = 5 then He.ga K "NotClosed" else if i = 6 then He.ga K "NoSuchBatch" else if i = 13 then He.ga K "Wire" else if i = 14 then He.ga K "End" else if i = 15 then He.ga K "Client" else if i = 1000 then p0 else 0
section
variable {B : Bs} {T : List Addr} {cls : Nat → Addr}
variable (f__is_good_13 : FdC B cls [13] "_is_good")
variable (f__left_13 : FdC B cls [13] "_left")
variable (f_side_13 : FdC B cls [13] "side")
variable {f : Addr} {fd : FuncData}
include f__is_good_13 f__left_13 f_side_13 in
theorem ok_Wire___init__ (F : Fun B.K "__init__" "Wire.__init__" s_Wire___init__ f fd) : FO B T cls 1 f fd ["self", "side"] sp_Wire___init__ := by
  refine fn_okZ F w_Wire___init__ ?_
  simp only [c_Wire___init__, okS, okE, true_and, and_true, and_assoc]
  repeat' (with_reducible refine And.intro ?_ ?_)
  all_goals first | exact trivial | exact n_set f__is_good_13 | exact n_set f__left_13 | exact n_set f_side_13
variable (f__wire_15 : FdC B cls [15] "_wire")
variable (f__to_send_15 : FdC B cls [15] "_to_send")
variable (f__reason_15 : FdC B cls [15] "_reason")
variable (f__phase_15 : FdC B cls [15] "_phase")
variable (f__other_side_15 : FdC B cls [15] "_other_side")
variable (n_Wire_1 : ∀ k, 2 ≤ k → NwC B T cls k "Wire" 13 sp_Wire___init__)
include f__wire_15 f__to_send_15 f__reason_15 f__phase_15 f__other_side_15 n_Wire_1 in
theorem ok_EndC___init__ (F : Fun B.K "__init__" "End.__init__" s_EndC___init__ f fd) : FO B T cls 3 f fd ["self", "other_side"] sp_EndC___init__ := by
  refine fn_okZ F w_EndC___init__ ?_
  simp only [c_EndC___init__, okS, okE, true_and, and_true, and_assoc]
  repeat' (with_reducible refine And.intro ?_ ?_)
  all_goals first | exact trivial | exact n_set f__wire_15 | exact n_new (at_ n_Wire_1) | exact n_set f__to_send_15 | exact n_set f__reason_15 | exact n_set f__phase_15 | exact n_set f__other_side_15
theorem ok_Client___init__ {fd fd2 : FuncData} (F : FunS B.K u_Client___init__ fd) (hcls : He.ga B.K "Client" = cls 15) (m1 : B.mg "super" = none) (m2 : (B.P.main.scope.names.lookup ("super" : Str)).isSome = false) (m3 : B.P.main.file = PySem.Challenge.pw_batchends_k11_commands_of_clients.main.file) (b0 : Binds B.K fd2 ["self", "other_side"] []) (f__replies_15 : FdC B cls [15] "_replies") (f__outcomes_15 : FdC B cls [15] "_outcomes") (f__batches_15 : FdC B cls [15] "_batches") (f__commands_15 : FdC B cls [15] "_commands") (f__session_15 : FdC B cls [15] "_session") (o0 : FnOk B.P B.w B.K B.mg B.base (L2N.CX B.P B.w) 3 (He.ma B.K (He.ga B.K "End") "__init__") fd2 ["self", "other_side"] (lift ⟨B.K, T, cls⟩ sp_EndC___init__)) : FnOk B.P B.w B.K B.mg B.base (L2N.CX B.P B.w) 5 (He.fAd B.K (u_Client___init__).at_) fd ["self"] (lift ⟨B.K, T, cls⟩ sp_Client___init__) := by
  refine fn_okS' (k := 4) (c := c_Client___init__) (cn := 15) (z := "server") (sp0 := sp_EndC___init__) F hcls (by decide +kernel) (by decide +kernel) sc_Client___init__ m1 m2 m3 (o0.mono (by decide)) b0 k_Client___init__ ?_ (by decide +kernel) w_Client___init__ ?_
  · simp only [c_Client___init__, okS, okE, true_and, and_true, and_assoc]
    repeat' (with_reducible refine And.intro ?_ ?_)
    all_goals first | exact trivial | exact n_set f__replies_15 | exact n_set f__outcomes_15 | exact n_set f__batches_15 | exact n_set f__commands_15 | exact n_set f__session_15
  · intro ds μ Q QX h
    simp only [sp_Client___init__] at h
    split at h <;> first | rfl | exact h.elim
theorem ok__law_wrong11 (F : Fun B.K "_law_wrong" "_law_wrong" s__law_wrong11 f fd) : FO B T cls 1 f fd [] sp__law_wrong11 := by
  refine fn_okZ F w__law_wrong11 ?_
  simp only [c__law_wrong11, r1__law_wrong11, r2__law_wrong11, r3__law_wrong11, r4__law_wrong11, r5__law_wrong11, r6__law_wrong11, r7__law_wrong11, r8__law_wrong11, r9__law_wrong11, r10__law_wrong11, okS, okE, true_and, and_true, and_assoc]
  repeat' (with_reducible refine And.intro ?_ ?_)
  all_goals first | exact trivial | exact n_dnil
variable (z_int : B.mg "int" = none)
variable (z_range : B.mg "range" = none)
include z_int z_range in
theorem ok__law_row (F : Fun B.K "_law_row" "_law_row" s__law_row f fd) : FO B T cls 1 f fd ["_law_cell_here", "_law_count"] sp__law_row := by
  refine fn_okZ F w__law_row ?_
  simp only [c__law_row, b1__law_row, okS, okE, true_and, and_true, and_assoc]
  repeat' (with_reducible refine And.intro ?_ ?_)
  all_goals first | exact trivial | exact m_app | exact c_int z_int | exact z_range
include z_range in
theorem ok__law_name (F : Fun B.K "_law_name" "_law_name" s__law_name f fd) : FO B T cls 1 f fd ["_law_number"] sp__law_name := by
  refine fn_okZ F w__law_name ?_
  simp only [c__law_name, okS, okE, true_and, and_true, and_assoc]
  repeat' (with_reducible refine And.intro ?_ ?_)
  all_goals first | exact trivial | exact m_join | exact z_range
variable (h__law_name : HC B T cls 1 "_law_name" sp__law_name)
include z_range h__law_name in
theorem ok__law_text (F : Fun B.K "_law_text" "_law_text" s__law_text f fd) : FO B T cls 3 f fd ["_law_number"] sp__law_text := by
  refine fn_okZ F w__law_text ?_
  simp only [c__law_text, okS, okE, true_and, and_true, and_assoc]
  repeat' (with_reducible refine And.intro ?_ ?_)
  all_goals first | exact trivial | exact m_join | exact z_range | exact at_ h__law_name
variable (h__law_text : HC B T cls 3 "_law_text" sp__law_text)
include h__law_text in
theorem ok__law_value (F : Fun B.K "_law_value" "_law_value" s__law_value f fd) : FO B T cls 5 f fd ["_law_number"] sp__law_value := by
  refine fn_okZ F w__law_value ?_
  simp only [c__law_value, okS, okE, true_and, and_true, and_assoc]
  repeat' (with_reducible refine And.intro ?_ ?_)
  all_goals first | exact trivial | exact at_ h__law_text
variable (z_isinstance : B.mg "isinstance" = none)
variable (z_str : B.mg "str" = none)
variable (h__law_value : HC B T cls 5 "_law_value" sp__law_value)
include z_isinstance z_str h__law_value in
theorem ok__law_term (F : Fun B.K "_law_term" "_law_term" s__law_term f fd) : FO B T cls 7 f fd ["_law_number", "_law_used_here"] sp__law_term := by
  refine fn_okZ F w__law_term ?_
  simp only [c__law_term, okS, okE, true_and, and_true, and_assoc]
  repeat' (with_reducible refine And.intro ?_ ?_)
  all_goals first | exact trivial | exact c_isi z_isinstance | exact ⟨z_str, by decide +kernel, by decide +kernel⟩ | exact at_ h__law_value
variable (z_max : B.mg "max" = none)
variable (z_tuple : B.mg "tuple" = none)
include z_isinstance z_max z_tuple in
theorem ok__law_used (F : Fun B.K "_law_used" "_law_used" s__law_used f fd) : FO B T cls 1 f fd ["_law_parts"] sp__law_used := by
  refine fn_okZ F w__law_used ?_
  simp only [c__law_used, okS, okE, true_and, and_true, and_assoc]
  repeat' (with_reducible refine And.intro ?_ ?_)
  all_goals first | exact trivial | exact c_max z_max | exact c_isi z_isinstance | exact ⟨z_tuple, by decide +kernel, by decide +kernel⟩
variable (z_len : B.mg "len" = none)
variable (h__law_term : HC B T cls 7 "_law_term" sp__law_term)
variable (h__law_used : HC B T cls 1 "_law_used" sp__law_used)
include z_range z_tuple z_len h__law_term h__law_used in
theorem ok__law_statement (F : Fun B.K "_law_statement" "_law_statement" s__law_statement f fd) : FO B T cls 9 f fd ["_law_row_here", "_law_names"] sp__law_statement := by
  refine fn_okZ F w__law_statement ?_
  simp only [c__law_statement, b1__law_statement, r1__law_statement, r2__law_statement, r3__law_statement, r4__law_statement, r5__law_statement, r6__law_statement, r7__law_statement, r8__law_statement, okS, okE, true_and, and_true, and_assoc]
  repeat' (with_reducible refine And.intro ?_ ?_)
  all_goals first | exact trivial | exact c_len z_len | exact m_dget | exact m_app | exact z_range | exact c_tup z_tuple | exact n_dsp | exact at_ h__law_term | exact at_ h__law_used
include z_int z_isinstance z_str in
theorem ok__law_written (F : Fun B.K "_law_written" "_law_written" s__law_written f fd) : FO B T cls 1 f fd ["_law_parts"] sp__law_written := by
  refine fn_okZ F w__law_written ?_
  simp only [c__law_written, b1__law_written, okS, okE, true_and, and_true, and_assoc]
  repeat' (with_reducible refine And.intro ?_ ?_)
  all_goals first | exact trivial | exact m_join | exact c_isi z_isinstance | exact ⟨z_str, by decide +kernel, by decide +kernel⟩ | exact m_app | exact ⟨z_int, by decide +kernel, by decide +kernel⟩ | exact c_str z_str
variable (h__law_statement : HC B T cls 9 "_law_statement" sp__law_statement)
variable (h__law_written : HC B T cls 1 "_law_written" sp__law_written)
include z_range h__law_value z_tuple h__law_used h__law_statement h__law_written in
theorem ok__law_unit (F : Fun B.K "_law_unit" "_law_unit" s__law_unit f fd) : FO B T cls 11 f fd ["_law_row_here"] sp__law_unit := by
  refine fn_okZ F w__law_unit ?_
  simp only [c__law_unit, r1__law_unit, r2__law_unit, r3__law_unit, r4__law_unit, r5__law_unit, r6__law_unit, r7__law_unit, r8__law_unit, r9__law_unit, r10__law_unit, r11__law_unit, r12__law_unit, okS, okE, true_and, and_true, and_assoc]
  repeat' (with_reducible refine And.intro ?_ ?_)
  all_goals first | exact trivial | exact z_range | exact n_mulL | exact n_addM | exact c_tup z_tuple | exact m_app | exact n_slL | exact at_ h__law_statement | exact at_ h__law_used | exact at_ h__law_value | exact at_ h__law_written
variable (h__law_row : HC B T cls 1 "_law_row" sp__law_row)
variable (h__law_unit : HC B T cls 11 "_law_unit" sp__law_unit)
include z_range h__law_row h__law_unit in
theorem ok__law_units (F : Fun B.K "_law_units" "_law_units" s__law_units f fd) : FO B T cls 13 f fd ["_law_cell_here", "_law_count"] sp__law_units := by
  refine fn_okZ F w__law_units ?_
  simp only [c__law_units, b1__law_units, r1__law_units, r2__law_units, r3__law_units, okS, okE, true_and, and_true, and_assoc]
  repeat' (with_reducible refine And.intro ?_ ?_)
  all_goals first | exact trivial | exact z_range | exact at_ h__law_row | exact at_ h__law_unit
include z_len in
theorem ok__law_cell11 (F : Fun B.K "_law_cell" "_law_cell" s__law_cell11 f fd) : FO B T cls 1 f fd ["_law_script", "_law_k"] sp__law_cell11 := by
  refine fn_okZ F w__law_cell11 ?_
  simp only [c__law_cell11, okS, okE, true_and, and_true, and_assoc]
  repeat' (with_reducible refine And.intro ?_ ?_)
  all_goals first | exact trivial | exact c_len z_len
variable (f__commands_15 : FdC B cls [15] "_commands")
variable (y_MOST_COMMANDS : ∃ t, B.mg "MOST_COMMANDS" = some (.int 20 t))
variable (r_BatchFull : RsC B cls "BatchFull" x_BatchFull)
variable (r_InvalidCommand : RsC B cls "InvalidCommand" x_InvalidCommand)
include z_len f__commands_15 y_MOST_COMMANDS r_BatchFull r_InvalidCommand in
theorem ok_Client__added (F : Fun B.K "_added" "Client._added" s_Client__added f fd) : FO B T cls 1 f fd ["self", "command", "is_right"] sp_Client__added := by
  refine fn_okZ F w_Client__added ?_
  simp only [c_Client__added, okS, okE, true_and, and_true, and_assoc]
  repeat' (with_reducible refine And.intro ?_ ?_)
  all_goals first | exact trivial | exact c_len z_len | exact n_fld f__commands_15 | exact m_app | exact (let ⟨t, e⟩ := y_MOST_COMMANDS; ⟨_, .int 20, e, ⟨t, rfl⟩, fun _ => rfl⟩) | exact n_rse r_BatchFull | exact n_rse r_InvalidCommand
theorem ok_is_string {f : Addr} {fd : FuncData} (F : Fun B.K "is_string" "is_string" s_is_string f fd) (hl : ∀ cdv, PySem.W.codeIn B.K cdv "is_string" = true → (∃ oc od kV doc pm an ct osl, B.K.lookup f = some ⟨oc, od, .func (PySem.W.fnOf "is_string" "is_string" (defArgs s_is_string) (defBody s_is_string) (defScope s_is_string) .none kV doc pm an cdv ct), osl⟩) → ∃ c P, cdv = .ref c ∧ GxR.TabB B.base B.mg c P ∧ P ∈ T) (z_all : B.mg "all" = none) (y_SIGNS : ∃ t, B.mg "SIGNS" = some (.str " !\"#$&'()*+,-./0123456789:;<=>?@ABCDEFGHIJKLMNOPQRSTUVWXYZ[\\]^_`abcdefghijklmnopqrstuvwxyz{|}~" t)) (z_len : B.mg "len" = none) (y_LONGEST_STRING : ∃ t, B.mg "LONGEST_STRING" = some (.int 200 t)) (z_isinstance : B.mg "isinstance" = none) (z_str : B.mg "str" = none) : FnOk B.P B.w B.K B.mg B.base (L2N.CX B.P B.w) 1 f fd ["value"] (lift ⟨B.K, T, cls⟩ sp_is_string) := by
  refine fn_ok (cd := True) (c := c_is_string) F sc_is_string k_is_string ?_ (fun _ => hl) (fun z => absurd z (by decide +kernel)) w_is_string ?_
  · simp only [c_is_string, okS, okE, true_and, and_true, and_assoc]
    repeat' (with_reducible refine And.intro ?_ ?_)
    all_goals first | exact trivial | exact n_allS trivial z_all y_SIGNS | exact c_len z_len | exact (let ⟨t, e⟩ := y_LONGEST_STRING; ⟨_, .int 200, e, ⟨t, rfl⟩, fun _ => rfl⟩) | exact c_isi z_isinstance | exact ⟨z_str, by decide +kernel, by decide +kernel⟩
  · intro ds μ Q QX h
    simp only [sp_is_string, spB] at h
    split at h <;> first | rfl | exact h.elim
theorem ok_is_name {f : Addr} {fd : FuncData} (F : Fun B.K "is_name" "is_name" s_is_name f fd) (hl : ∀ cdv, PySem.W.codeIn B.K cdv "is_name" = true → (∃ oc od kV doc pm an ct osl, B.K.lookup f = some ⟨oc, od, .func (PySem.W.fnOf "is_name" "is_name" (defArgs s_is_name) (defBody s_is_name) (defScope s_is_name) .none kV doc pm an cdv ct), osl⟩) → ∃ c P, cdv = .ref c ∧ GxR.TabB B.base B.mg c P ∧ P ∈ T) (z_all : B.mg "all" = none) (y_LETTERS : ∃ t, B.mg "LETTERS" = some (.str "abcdefghijklmnopqrstuvwxyz" t)) (z_len : B.mg "len" = none) (y_LONGEST_NAME : ∃ t, B.mg "LONGEST_NAME" = some (.int 8 t)) (z_isinstance : B.mg "isinstance" = none) (z_str : B.mg "str" = none) : FnOk B.P B.w B.K B.mg B.base (L2N.CX B.P B.w) 1 f fd ["value"] (lift ⟨B.K, T, cls⟩ sp_is_name) := by
  refine fn_ok (cd := True) (c := c_is_name) F sc_is_name k_is_name ?_ (fun _ => hl) (fun z => absurd z (by decide +kernel)) w_is_name ?_
  · simp only [c_is_name, okS, okE, true_and, and_true, and_assoc]
    repeat' (with_reducible refine And.intro ?_ ?_)
    all_goals first | exact trivial | exact n_allS trivial z_all y_LETTERS | exact c_len z_len | exact (let ⟨t, e⟩ := y_LONGEST_NAME; ⟨_, .int 8, e, ⟨t, rfl⟩, fun _ => rfl⟩) | exact c_isi z_isinstance | exact ⟨z_str, by decide +kernel, by decide +kernel⟩
  · intro ds μ Q QX h
    simp only [sp_is_name, spB] at h
    split at h <;> first | rfl | exact h.elim
variable (h_Client__added : HM B T cls 1 15 "_added" sp_Client__added)
variable (h_is_string : HC B T cls 1 "is_string" sp_is_string)
variable (h_is_name : HC B T cls 1 "is_name" sp_is_name)
include h_Client__added h_is_string h_is_name in
theorem ok_Client_prepare (F : Fun B.K "prepare" "Client.prepare" s_Client_prepare f fd) : FO B T cls 3 f fd ["self", "name", "string"] sp_Client_prepare := by
  refine fn_okZ F w_Client_prepare ?_
  simp only [c_Client_prepare, okS, okE, true_and, and_true, and_assoc]
  repeat' (with_reducible refine And.intro ?_ ?_)
  all_goals first | exact trivial | exact one_met (at_ h_Client__added) | exact at_ h_is_string | exact at_ h_is_name
variable (y_LONGEST_TEXT : ∃ t, B.mg "LONGEST_TEXT" = some (.int 40 t))
include z_len h_is_string y_LONGEST_TEXT in
theorem ok_is_text (F : Fun B.K "is_text" "is_text" s_is_text f fd) : FO B T cls 3 f fd ["value"] sp_is_text := by
  refine fn_okZ F w_is_text ?_
  simp only [c_is_text, okS, okE, true_and, and_true, and_assoc]
  repeat' (with_reducible refine And.intro ?_ ?_)
  all_goals first | exact trivial | exact c_len z_len | exact (let ⟨t, e⟩ := y_LONGEST_TEXT; ⟨_, .int 40, e, ⟨t, rfl⟩, fun _ => rfl⟩) | exact at_ h_is_string
variable (z_bool : B.mg "bool" = none)
include z_int z_isinstance z_bool in
theorem ok_is_integer (F : Fun B.K "is_integer" "is_integer" s_is_integer f fd) : FO B T cls 1 f fd ["value", "least", "most"] sp_is_integer := by
  refine fn_okZ F w_is_integer ?_
  simp only [c_is_integer, okS, okE, true_and, and_true, and_assoc]
  repeat' (with_reducible refine And.intro ?_ ?_)
  all_goals first | exact trivial | exact c_isi z_isinstance | exact ⟨z_bool, by decide +kernel, by decide +kernel⟩ | exact ⟨z_int, by decide +kernel, by decide +kernel⟩
variable (y_GREATEST : ∃ t, B.mg "GREATEST" = some (.int 2147483647 t))
variable (y_LEAST : ∃ t, B.mg "LEAST" = some (.int (-2147483648) t))
variable (h_is_text : HC B T cls 3 "is_text" sp_is_text)
variable (h_is_integer : HC B T cls 1 "is_integer" sp_is_integer)
include y_GREATEST y_LEAST h_is_text h_is_integer in
theorem ok_is_value (F : Fun B.K "is_value" "is_value" s_is_value f fd) : FO B T cls 5 f fd ["value"] sp_is_value := by
  refine fn_okZ F w_is_value ?_
  simp only [c_is_value, okS, okE, true_and, and_true, and_assoc]
  repeat' (with_reducible refine And.intro ?_ ?_)
  all_goals first | exact trivial | exact (let ⟨t, e⟩ := y_GREATEST; ⟨_, .int 2147483647, e, ⟨t, rfl⟩, fun _ => rfl⟩) | exact (let ⟨t, e⟩ := y_LEAST; ⟨_, .int (-2147483648), e, ⟨t, rfl⟩, fun _ => rfl⟩) | exact at_ h_is_text | exact at_ h_is_integer
variable (y_MOST_VALUES : ∃ t, B.mg "MOST_VALUES" = some (.int 4 t))
variable (z_list : B.mg "list" = none)
variable (z_all : B.mg "all" = none)
variable (h_is_value : HC B T cls 5 "is_value" sp_is_value)
include z_isinstance z_tuple z_len h_Client__added h_is_name y_MOST_VALUES z_list z_all h_is_value in
theorem ok_Client_bind (F : Fun B.K "bind" "Client.bind" s_Client_bind f fd) : FO B T cls 7 f fd ["self", "portal", "name", "values"] sp_Client_bind := by
  refine fn_okZ F w_Client_bind ?_
  simp only [c_Client_bind, r1_Client_bind, r2_Client_bind, r3_Client_bind, okS, okE, true_and, and_true, and_assoc]
  repeat' (with_reducible refine And.intro ?_ ?_)
  all_goals first | exact trivial | exact c_len z_len | exact (let ⟨t, e⟩ := y_MOST_VALUES; ⟨_, .int 4, e, ⟨t, rfl⟩, fun _ => rfl⟩) | exact c_isi z_isinstance | exact ⟨z_tuple, by decide +kernel, by decide +kernel⟩ | exact ⟨z_list, by decide +kernel, by decide +kernel⟩ | exact c_all z_all | exact c_tup z_tuple | exact one_met (at_ h_Client__added) | exact at_ h_is_value | exact at_ h_is_name
theorem ok_Client_run {f : Addr} {fd : FuncData} {dvs : List V} (F : FunD B.K "run" "Client.run" (defArgs s_Client_run) (defBody s_Client_run) (defScope s_Client_run) dvs [] f fd) (h_Client__added : HM B T cls 1 15 "_added" sp_Client__added) (y_MOST_AT_ONCE : ∃ t, B.mg "MOST_AT_ONCE" = some (.int 1000 t)) (h_is_integer : HC B T cls 1 "is_integer" sp_is_integer) (h_is_name : HC B T cls 1 "is_name" sp_is_name) : FnOk B.P B.w B.K B.mg B.base (L2N.CX B.P B.w) 3 f fd ["self", "portal", "most"] (lift ⟨B.K, T, cls⟩ sp_Client_run) := by
  refine fn_okD (c := c_Client_run) F sc_Client_run k_Client_run ?_ (by decide +kernel) w_Client_run ?_
  · simp only [c_Client_run, okS, okE, true_and, and_true, and_assoc]
    repeat' (with_reducible refine And.intro ?_ ?_)
    all_goals first | exact trivial | exact one_met (h_Client__added _ (by decide)) | exact (let ⟨t, e⟩ := y_MOST_AT_ONCE; ⟨_, .int 1000, e, ⟨t, rfl⟩, fun _ => rfl⟩) | exact h_is_integer _ (by decide) | exact h_is_name _ (by decide)
  · intro ds μ Q QX h
    simp only [sp_Client_run] at h
    split at h <;> first | rfl | exact h.elim
include h_Client__added h_is_name in
theorem ok_Client_forget (F : Fun B.K "forget" "Client.forget" s_Client_forget f fd) : FO B T cls 3 f fd ["self", "name"] sp_Client_forget := by
  refine fn_okZ F w_Client_forget ?_
  simp only [c_Client_forget, okS, okE, true_and, and_true, and_assoc]
  repeat' (with_reducible refine And.intro ?_ ?_)
  all_goals first | exact trivial | exact one_met (at_ h_Client__added) | exact at_ h_is_name
include h_Client__added h_is_name in
theorem ok_Client_close (F : Fun B.K "close" "Client.close" s_Client_close f fd) : FO B T cls 3 f fd ["self", "portal"] sp_Client_close := by
  refine fn_okZ F w_Client_close ?_
  simp only [c_Client_close, okS, okE, true_and, and_true, and_assoc]
  repeat' (with_reducible refine And.intro ?_ ?_)
  all_goals first | exact trivial | exact one_met (at_ h_Client__added) | exact at_ h_is_name
variable (hk_Client_prepare : ∀ k, 3 ≤ k → MeKC B T cls k 15 "prepare" ["name", "string"] sp_Client_prepare)
variable (hk_Client_bind : ∀ k, 7 ≤ k → MeKC B T cls k 15 "bind" ["portal", "name", "values"] sp_Client_bind)
variable (hk_Client_run : ∀ k, 3 ≤ k → MeKC B T cls k 15 "run" ["portal", "most"] sp_Client_run)
variable (hk_Client_forget : ∀ k, 3 ≤ k → MeKC B T cls k 15 "forget" ["name"] sp_Client_forget)
variable (hk_Client_close : ∀ k, 3 ≤ k → MeKC B T cls k 15 "close" ["portal"] sp_Client_close)
include hk_Client_prepare hk_Client_bind hk_Client_run hk_Client_forget hk_Client_close in
theorem ok__law_named11 (F : Fun B.K "_law_named" "_law_named" s__law_named11 f fd) : FO B T cls 9 f fd ["_law_client", "_law_command"] sp__law_named11 := by
  refine fn_okZ F w__law_named11 ?_
  simp only [c__law_named11, r1__law_named11, r2__law_named11, r3__law_named11, r4__law_named11, okS, okE, true_and, and_true, and_assoc]
  repeat' (with_reducible refine And.intro ?_ ?_)
  all_goals first | exact trivial | exact n_mkw (one_mkw (at_ hk_Client_prepare)) (by simp only [okE, true_and, and_true]) | exact n_mkw (one_mkw (at_ hk_Client_bind)) (by simp only [okE, true_and, and_true]) | exact n_mkw (one_mkw (at_ hk_Client_run)) (by simp only [okE, true_and, and_true]) | exact n_mkw (one_mkw (at_ hk_Client_forget)) (by simp only [okE, true_and, and_true]) | exact n_mkw (one_mkw (at_ hk_Client_close)) (by simp only [okE, true_and, and_true])
variable (h_Client_prepare : HM B T cls 3 15 "prepare" sp_Client_prepare)
variable (h_Client_bind : HM B T cls 7 15 "bind" sp_Client_bind)
variable (h_Client_run_1 : HM B T cls 3 15 "run" (spD sp_Client_run [.int 0]))
variable (h_Client_run : HM B T cls 3 15 "run" sp_Client_run)
variable (h_Client_forget : HM B T cls 3 15 "forget" sp_Client_forget)
variable (h_Client_close : HM B T cls 3 15 "close" sp_Client_close)
variable (h__law_named11 : HC B T cls 9 "_law_named" sp__law_named11)
include z_isinstance z_str z_len h_Client_prepare h_Client_bind h_Client_run_1 h_Client_run h_Client_forget h_Client_close h__law_named11 in
theorem ok__law_add11 (F : Fun B.K "_law_add" "_law_add" s__law_add11 f fd) : FO B T cls 11 f fd ["_law_client", "_law_command"] sp__law_add11 := by
  refine fn_okZ F w__law_add11 ?_
  simp only [c__law_add11, r1__law_add11, r2__law_add11, r3__law_add11, r4__law_add11, r5__law_add11, r6__law_add11, okS, okE, true_and, and_true, and_assoc]
  repeat' (with_reducible refine And.intro ?_ ?_)
  all_goals first | exact trivial | exact c_len z_len | exact c_isi z_isinstance | exact ⟨z_str, by decide +kernel, by decide +kernel⟩ | exact one_met (at_ h_Client_prepare) | exact one_met (at_ h_Client_bind) | exact one_met (at_ h_Client_run_1) | exact one_met (at_ h_Client_run) | exact one_met (at_ h_Client_forget) | exact one_met (at_ h_Client_close) | exact at_ h__law_named11
variable (kdF : ∀ k, 1 ≤ k → KindF B k)
variable (tf_BatchFull : TryF B cls 3 "BatchFull")
variable (tf_InvalidCommand : TryF B cls 2 "InvalidCommand")
variable (z_ValueError : B.mg "ValueError" = none)
variable (h__law_add11 : HC B T cls 11 "_law_add" sp__law_add11)
include z_isinstance kdF tf_BatchFull tf_InvalidCommand z_ValueError h__law_add11 in
theorem ok__law_told11 (F : Fun B.K "_law_told" "_law_told" s__law_told11 f fd) : FO B T cls 13 f fd ["_law_client", "_law_command"] sp__law_told11 := by
  refine fn_okZ F w__law_told11 ?_
  simp only [c__law_told11, okS, okE, true_and, and_true, and_assoc]
  repeat' (with_reducible refine And.intro ?_ ?_)
  all_goals first | exact trivial | exact at_ h__law_add11 | exact n_try2 (kdF _ (by decide)) tf_BatchFull tf_InvalidCommand z_isinstance z_ValueError (by simp only [b1__law_told11, okS, okE, true_and, and_true, and_assoc]; (repeat' (with_reducible refine And.intro ?_ ?_)); all_goals first | exact trivial | exact at_ h__law_add11)
include f__to_send_15 z_len in
theorem ok_Client_waiting (F : Fun B.K "waiting" "Client.waiting" s_Client_waiting f fd) : FO B T cls 1 f fd ["self"] sp_Client_waiting := by
  refine fn_okZ F w_Client_waiting ?_
  simp only [c_Client_waiting, okS, okE, true_and, and_true, and_assoc]
  repeat' (with_reducible refine And.intro ?_ ?_)
  all_goals first | exact trivial | exact c_len z_len | exact n_fld f__to_send_15
include f__phase_15 in
theorem ok_Client_phase (F : Fun B.K "phase" "Client.phase" s_Client_phase f fd) : FO B T cls 1 f fd ["self"] sp_Client_phase := by
  refine fn_okZ F w_Client_phase ?_
  simp only [c_Client_phase, okS, okE, true_and, and_true, and_assoc]
  repeat' (with_reducible refine And.intro ?_ ?_)
  all_goals first | exact trivial | exact n_fld f__phase_15
include z_range in
theorem ok_number_bytes (F : Fun B.K "number_bytes" "number_bytes" s_number_bytes f fd) : FO B T cls 1 f fd ["number", "count"] sp_number_bytes := by
  refine fn_okZ F w_number_bytes ?_
  simp only [c_number_bytes, b1_number_bytes, okS, okE, true_and, and_true, and_assoc]
  repeat' (with_reducible refine And.intro ?_ ?_)
  all_goals first | exact trivial | exact n_rev | exact m_app | exact z_range
variable (z_ord : B.mg "ord" = none)
include z_len z_ord in
theorem ok_string_bytes (F : Fun B.K "string_bytes" "string_bytes" s_string_bytes f fd) : FO B T cls 1 f fd ["string"] sp_string_bytes := by
  refine fn_okZ F w_string_bytes ?_
  simp only [c_string_bytes, okS, okE, true_and, and_true, and_assoc]
  repeat' (with_reducible refine And.intro ?_ ?_)
  all_goals first | exact trivial | exact c_len z_len | exact c_ord z_ord
variable (h_number_bytes : HC B T cls 1 "number_bytes" sp_number_bytes)
variable (h_string_bytes : HC B T cls 1 "string_bytes" sp_string_bytes)
include z_isinstance z_str h_number_bytes h_string_bytes in
theorem ok_value_bytes (F : Fun B.K "value_bytes" "value_bytes" s_value_bytes f fd) : FO B T cls 3 f fd ["value"] sp_value_bytes := by
  refine fn_okZ F w_value_bytes ?_
  simp only [c_value_bytes, okS, okE, true_and, and_true, and_assoc]
  repeat' (with_reducible refine And.intro ?_ ?_)
  all_goals first | exact trivial | exact c_isi z_isinstance | exact ⟨z_str, by decide +kernel, by decide +kernel⟩ | exact at_ h_number_bytes | exact at_ h_string_bytes
variable (h_value_bytes : HC B T cls 3 "value_bytes" sp_value_bytes)
include z_len h_value_bytes in
theorem ok_row_bytes (F : Fun B.K "row_bytes" "row_bytes" s_row_bytes f fd) : FO B T cls 5 f fd ["row"] sp_row_bytes := by
  refine fn_okZ F w_row_bytes ?_
  simp only [c_row_bytes, b1_row_bytes, okS, okE, true_and, and_true, and_assoc]
  repeat' (with_reducible refine And.intro ?_ ?_)
  all_goals first | exact trivial | exact c_len z_len | exact at_ h_value_bytes
include z_len h_number_bytes in
theorem ok_whole (F : Fun B.K "whole" "whole" s_whole f fd) : FO B T cls 3 f fd ["kind", "body"] sp_whole := by
  refine fn_okZ F w_whole ?_
  simp only [c_whole, okS, okE, true_and, and_true, and_assoc]
  repeat' (with_reducible refine And.intro ?_ ?_)
  all_goals first | exact trivial | exact c_len z_len | exact at_ h_number_bytes
variable (t_CLIENT_WORDS : GtC B "CLIENT_WORDS" ["", "hello", "prepare", "bind", "run", "forget", "close", "sync"])
variable (h_row_bytes : HC B T cls 5 "row_bytes" sp_row_bytes)
variable (h_whole : HC B T cls 3 "whole" sp_whole)
include h_number_bytes h_string_bytes t_CLIENT_WORDS h_row_bytes h_whole in
theorem ok_client_bytes (F : Fun B.K "client_bytes" "client_bytes" s_client_bytes f fd) : FO B T cls 7 f fd ["message"] sp_client_bytes := by
  refine fn_okZ F w_client_bytes ?_
  simp only [c_client_bytes, r1_client_bytes, r2_client_bytes, okS, okE, true_and, and_true, and_assoc]
  repeat' (with_reducible refine And.intro ?_ ?_)
  all_goals first | exact trivial | exact t_CLIENT_WORDS.glb | exact n_gidx t_CLIENT_WORDS | exact at_ h_number_bytes | exact at_ h_string_bytes | exact at_ h_row_bytes | exact at_ h_whole
variable (h_client_bytes : HC B T cls 7 "client_bytes" sp_client_bytes)
include f__to_send_15 h_client_bytes in
theorem ok_Client__send (F : Fun B.K "_send" "Client._send" s_Client__send f fd) : FO B T cls 9 f fd ["self", "message"] sp_Client__send := by
  refine fn_okZ F w_Client__send ?_
  simp only [c_Client__send, okS, okE, true_and, and_true, and_assoc]
  repeat' (with_reducible refine And.intro ?_ ?_)
  all_goals first | exact trivial | exact n_fld f__to_send_15 | exact n_set f__to_send_15 | exact at_ h_client_bytes
variable (h_Client__send : HM B T cls 9 15 "_send" sp_Client__send)
variable (f__batches_15 : FdC B cls [15] "_batches")
variable (f__outcomes_15 : FdC B cls [15] "_outcomes")
include z_len h_Client__send f__batches_15 f__outcomes_15 in
theorem ok_Client__send_batch (F : Fun B.K "_send_batch" "Client._send_batch" s_Client__send_batch f fd) : FO B T cls 11 f fd ["self", "number"] sp_Client__send_batch := by
  refine fn_okZ F w_Client__send_batch ?_
  simp only [c_Client__send_batch, b1_Client__send_batch, r1_Client__send_batch, okS, okE, true_and, and_true, and_assoc]
  repeat' (with_reducible refine And.intro ?_ ?_)
  all_goals first | exact trivial | exact one_met (at_ h_Client__send) | exact n_fld f__batches_15 | exact c_len z_len | exact n_fld f__outcomes_15
variable (y_MOST_BATCHES : ∃ t, B.mg "MOST_BATCHES" = some (.int 50 t))
variable (r_TooManyBatches : RsC B cls "TooManyBatches" x_TooManyBatches)
variable (h_Client__send_batch : HM B T cls 11 15 "_send_batch" sp_Client__send_batch)
include f__phase_15 z_len f__commands_15 f__batches_15 y_MOST_BATCHES r_TooManyBatches h_Client__send_batch in
theorem ok_Client_sync (F : Fun B.K "sync" "Client.sync" s_Client_sync f fd) : FO B T cls 13 f fd ["self"] sp_Client_sync := by
  refine fn_okZ F w_Client_sync ?_
  simp only [c_Client_sync, r1_Client_sync, r2_Client_sync, r3_Client_sync, r4_Client_sync, okS, okE, true_and, and_true, and_assoc]
  repeat' (with_reducible refine And.intro ?_ ?_)
  all_goals first | exact trivial | exact c_len z_len | exact n_fld f__batches_15 | exact (let ⟨t, e⟩ := y_MOST_BATCHES; ⟨_, .int 50, e, ⟨t, rfl⟩, fun _ => rfl⟩) | exact n_rse r_TooManyBatches | exact m_app | exact n_fld f__commands_15 | exact n_set f__commands_15 | exact n_fld f__phase_15 | exact one_met (at_ h_Client__send_batch)
variable (h_Client_sync : HM B T cls 13 15 "sync" sp_Client_sync)
variable (tf_TooManyBatches : TryF B cls 4 "TooManyBatches")
include z_isinstance kdF z_ValueError h_Client_sync tf_TooManyBatches in
theorem ok__law_synced11 (F : Fun B.K "_law_synced" "_law_synced" s__law_synced11 f fd) : FO B T cls 15 f fd ["_law_client"] sp__law_synced11 := by
  refine fn_okZ F w__law_synced11 ?_
  simp only [c__law_synced11, okS, okE, true_and, and_true, and_assoc]
  repeat' (with_reducible refine And.intro ?_ ?_)
  all_goals first | exact trivial | exact one_met (at_ h_Client_sync) | exact n_try (kdF _ (by decide)) tf_TooManyBatches z_isinstance z_ValueError (by simp only [b1__law_synced11, okS, okE, true_and, and_true, and_assoc]; (repeat' (with_reducible refine And.intro ?_ ?_)); all_goals first | exact trivial | exact one_met (at_ h_Client_sync))
include z_len f__batches_15 in
theorem ok_Client_handed (F : Fun B.K "handed" "Client.handed" s_Client_handed f fd) : FO B T cls 1 f fd ["self"] sp_Client_handed := by
  refine fn_okZ F w_Client_handed ?_
  simp only [c_Client_handed, okS, okE, true_and, and_true, and_assoc]
  repeat' (with_reducible refine And.intro ?_ ?_)
  all_goals first | exact trivial | exact c_len z_len | exact n_fld f__batches_15
include z_list in
theorem ok_told (F : Fun B.K "told" "told" s_told f fd) : FO B T cls 1 f fd ["reply"] sp_told := by
  refine fn_okZ F w_told ?_
  simp only [c_told, okS, okE, true_and, and_true, and_assoc]
  repeat' (with_reducible refine And.intro ?_ ?_)
  all_goals first | exact trivial | exact c_lst z_list
variable (r_NoSuchBatch : RsC B cls "NoSuchBatch" x_NoSuchBatch)
variable (h_told : HC B T cls 1 "told" sp_told)
include z_len h_is_integer f__batches_15 f__outcomes_15 r_NoSuchBatch h_told in
theorem ok_Client_outcome (F : Fun B.K "outcome" "Client.outcome" s_Client_outcome f fd) : FO B T cls 3 f fd ["self", "batch"] sp_Client_outcome := by
  refine fn_okZ F w_Client_outcome ?_
  simp only [c_Client_outcome, okS, okE, true_and, and_true, and_assoc]
  repeat' (with_reducible refine And.intro ?_ ?_)
  all_goals first | exact trivial | exact n_fld f__outcomes_15 | exact c_len z_len | exact n_fld f__batches_15 | exact n_rse r_NoSuchBatch | exact at_ h_told | exact at_ h_is_integer | exact n_cpM (by simp only [m1_Client_outcome, okE, true_and, and_true, and_assoc]; (repeat' (with_reducible refine And.intro ?_ ?_)); all_goals first | exact trivial | exact n_fld f__outcomes_15 | exact c_len z_len | exact n_fld f__batches_15 | exact n_rse r_NoSuchBatch | exact at_ h_told | exact at_ h_is_integer)
variable (h_Client_outcome : HM B T cls 3 15 "outcome" sp_Client_outcome)
variable (tf_NoSuchBatch : TryF B cls 6 "NoSuchBatch")
include z_isinstance kdF z_ValueError h_Client_outcome tf_NoSuchBatch in
theorem ok__law_outcome11 (F : Fun B.K "_law_outcome" "_law_outcome" s__law_outcome11 f fd) : FO B T cls 5 f fd ["_law_client", "_law_number"] sp__law_outcome11 := by
  refine fn_okZ F w__law_outcome11 ?_
  simp only [c__law_outcome11, okS, okE, true_and, and_true, and_assoc]
  repeat' (with_reducible refine And.intro ?_ ?_)
  all_goals first | exact trivial | exact one_met (at_ h_Client_outcome) | exact n_try (kdF _ (by decide)) tf_NoSuchBatch z_isinstance z_ValueError (by simp only [b1__law_outcome11, okS, okE, true_and, and_true, and_assoc]; (repeat' (with_reducible refine And.intro ?_ ?_)); all_goals first | exact trivial | exact one_met (at_ h_Client_outcome))
variable (p_Client_handed : HP B T cls 1 15 "handed" sp_Client_handed)
variable (h__law_told11 : HC B T cls 13 "_law_told" sp__law_told11)
variable (h__law_synced11 : HC B T cls 15 "_law_synced" sp__law_synced11)
include p_Client_handed h__law_told11 h__law_synced11 in
theorem ok__law_fifty11 (F : Fun B.K "_law_fifty" "_law_fifty" s__law_fifty11 f fd) : FO B T cls 17 f fd ["_law_client"] sp__law_fifty11 := by
  refine fn_okZ F w__law_fifty11 ?_
  simp only [c__law_fifty11, r1__law_fifty11, r2__law_fifty11, okS, okE, true_and, and_true, and_assoc]
  repeat' (with_reducible refine And.intro ?_ ?_)
  all_goals first | exact trivial | exact n_prp (j := 1) (by decide) (one_prp (at_ p_Client_handed)) | exact at_ h__law_told11 | exact at_ h__law_synced11
variable (f__session_15 : FdC B cls [15] "_session")
include f__session_15 in
theorem ok_Client_session (F : Fun B.K "session" "Client.session" s_Client_session f fd) : FO B T cls 1 f fd ["self"] sp_Client_session := by
  refine fn_okZ F w_Client_session ?_
  simp only [c_Client_session, okS, okE, true_and, and_true, and_assoc]
  repeat' (with_reducible refine And.intro ?_ ?_)
  all_goals first | exact trivial | exact n_fld f__session_15
include z_len f__outcomes_15 in
theorem ok_Client_received (F : Fun B.K "received" "Client.received" s_Client_received f fd) : FO B T cls 1 f fd ["self"] sp_Client_received := by
  refine fn_okZ F w_Client_received ?_
  simp only [c_Client_received, okS, okE, true_and, and_true, and_assoc]
  repeat' (with_reducible refine And.intro ?_ ?_)
  all_goals first | exact trivial | exact c_len z_len | exact n_fld f__outcomes_15
theorem ok_law11 {f : Addr} {fd : FuncData} (F : Fun B.K "law" "law" s_law11 f fd) (z_len : B.mg "len" = none) (p_Client_waiting : HP B T cls 1 15 "waiting" sp_Client_waiting) (p_Client_phase : HP B T cls 1 15 "phase" sp_Client_phase) (z_repr : B.mg "repr" = none) (z_min : B.mg "min" = none) (p_Client_handed : HP B T cls 1 15 "handed" sp_Client_handed) (z_range : B.mg "range" = none) (h_Client_outcome : HM B T cls 3 15 "outcome" sp_Client_outcome) (p_Client_session : HP B T cls 1 15 "session" sp_Client_session) (p_Client_received : HP B T cls 1 15 "received" sp_Client_received) (n_Client_0 : ∀ k, 6 ≤ k → NwC B T cls k "Client" 15 sp_Client___init__) (h__law_wrong11 : HF B T cls 1 "_law_wrong" sp__law_wrong11) (h__law_units : HC B T cls 13 "_law_units" sp__law_units) (h__law_cell11 : HC B T cls 1 "_law_cell" sp__law_cell11) (h__law_told11 : HC B T cls 13 "_law_told" sp__law_told11) (h__law_synced11 : HC B T cls 15 "_law_synced" sp__law_synced11) (h__law_outcome11 : HC B T cls 5 "_law_outcome" sp__law_outcome11) (h__law_fifty11 : HC B T cls 17 "_law_fifty" sp__law_fifty11) : FnRp B 18 f fd ["_law_script"] (lift ⟨B.K, T, cls⟩ sp_law11) := by
  refine fn_okG (cd := False) (k := 17) (c := c_law11) F sc_law11 k_law11 ?_ (fun z => z.elim) (by decide +kernel) w_law11 ?_
  · simp only [c_law11, q6b1_law11, q5b1_law11, q4b1_law11, q3b1_law11, q2b1_law11, q1b1_law11, b1_law11, q2b8_law11, q1b8_law11, b8_law11, b11_law11, r1_law11, r2_law11, r3_law11, r4_law11, r5_law11, r6_law11, r7_law11, r8_law11, r9_law11, r10_law11, r11_law11, okS, okE, true_and, and_true, and_assoc]
    repeat' (with_reducible refine And.intro ?_ ?_)
    all_goals first | exact trivial | exact n_new (n_Client_0 _ (by decide)) | exact c_len z_len | exact n_prp (j := 1) (by decide) (one_prp (p_Client_waiting _ (by decide))) | exact n_prp (j := 1) (by decide) (one_prp (p_Client_phase _ (by decide))) | exact n_rprI (by decide) z_repr | exact c_min2 z_min | exact n_prp (j := 1) (by decide) (one_prp (p_Client_handed _ (by decide))) | exact z_range | exact one_met (h_Client_outcome _ (by decide)) | exact n_prp (j := 1) (by decide) (one_prp (p_Client_session _ (by decide))) | exact n_prp (j := 1) (by decide) (one_prp (p_Client_received _ (by decide))) | exact n_cal0 (h__law_wrong11 _ (by decide)) | exact h__law_units _ (by decide) | exact h__law_cell11 _ (by decide) | exact h__law_told11 _ (by decide) | exact h__law_synced11 _ (by decide) | exact h__law_outcome11 _ (by decide) | exact h__law_fifty11 _ (by decide)
  · intro ds μ Q QX h
    simp only [sp_law11] at h
    split at h <;> first | rfl | exact h.elim
end
theorem facts {P : Program} (hsu : (P.main.scope.names.lookup ("super" : Str)).isSome = false) (hfi : P.main.file = PySem.Challenge.pw_batchends_k11_commands_of_clients.main.file) {w : World} {K : PySem.W.Frag} {cs ls : List (Addr × Addr)} {h : Heap} {mg : Str → Option Value} {fa : Addr} (S : SaysM faL fnL tsL usL cxL lmL emL suL ppL true w K cs ls h) (G : h.Ns mainGlobals mg) (hfa : mg ("law" : Str) = some (.ref fa)) :
    ∃ fd : FuncData, (∀ (s : Shared) (u : Value), BindsTo s fd ⟨[u], []⟩ [("_law_script", u)]) ∧ ∃ p0 : Addr, (p0 ≠ 0 → p0 ∉ cs.map (·.2) ∧ ∃ q ∈ ls, q.2 = p0) ∧ ∀ base : Heap, K.In base → base.Ns mainGlobals mg → (∀ p ∈ cs ++ ls, LamX.TabB base mg p.1 p.2) → FnRp ⟨P, w, K, mg, base⟩ 18 fa fd ["_law_script"] (lift ⟨K, cs.map (·.2), clsL K p0⟩ sp_law11) := by
  have X := S.kin
  obtain ⟨fd_Wire___init__, D_Wire___init__⟩ := S.says.d.def_ 0 (d := d_Wire___init__) rfl
  obtain ⟨fd_EndC___init__, D_EndC___init__⟩ := S.says.d.def_ 1 (d := d_EndC___init__) rfl
  obtain ⟨fd__law_wrong11, D__law_wrong11⟩ := S.says.d.def_ 2 (d := d__law_wrong11) rfl
  obtain ⟨fd__law_row, D__law_row⟩ := S.says.d.def_ 3 (d := d__law_row) rfl
  obtain ⟨fd__law_name, D__law_name⟩ := S.says.d.def_ 4 (d := d__law_name) rfl
  obtain ⟨fd__law_text, D__law_text⟩ := S.says.d.def_ 5 (d := d__law_text) rfl
  obtain ⟨fd__law_value, D__law_value⟩ := S.says.d.def_ 6 (d := d__law_value) rfl
  obtain ⟨fd__law_term, D__law_term⟩ := S.says.d.def_ 7 (d := d__law_term) rfl
  obtain ⟨fd__law_used, D__law_used⟩ := S.says.d.def_ 8 (d := d__law_used) rfl
  obtain ⟨fd__law_statement, D__law_statement⟩ := S.says.d.def_ 9 (d := d__law_statement) rfl
  obtain ⟨fd__law_written, D__law_written⟩ := S.says.d.def_ 10 (d := d__law_written) rfl
  obtain ⟨fd__law_unit, D__law_unit⟩ := S.says.d.def_ 11 (d := d__law_unit) rfl
  obtain ⟨fd__law_units, D__law_units⟩ := S.says.d.def_ 12 (d := d__law_units) rfl
  obtain ⟨fd__law_cell11, D__law_cell11⟩ := S.says.d.def_ 13 (d := d__law_cell11) rfl
  obtain ⟨fd_Client__added, D_Client__added⟩ := S.says.d.def_ 14 (d := d_Client__added) rfl
  obtain ⟨fd_is_string, D_is_string⟩ := S.says.d.def_ 15 (d := d_is_string) rfl
  obtain ⟨fd_is_name, D_is_name⟩ := S.says.d.def_ 16 (d := d_is_name) rfl
  obtain ⟨fd_Client_prepare, D_Client_prepare⟩ := S.says.d.def_ 17 (d := d_Client_prepare) rfl
  obtain ⟨fd_is_text, D_is_text⟩ := S.says.d.def_ 18 (d := d_is_text) rfl
  obtain ⟨fd_is_integer, D_is_integer⟩ := S.says.d.def_ 19 (d := d_is_integer) rfl
  obtain ⟨fd_is_value, D_is_value⟩ := S.says.d.def_ 20 (d := d_is_value) rfl
  obtain ⟨fd_Client_bind, D_Client_bind⟩ := S.says.d.def_ 21 (d := d_Client_bind) rfl
  obtain ⟨fd_Client_run, D_Client_run⟩ := S.says.d.def_ 22 (d := d_Client_run) rfl
  obtain ⟨fd_Client_forget, D_Client_forget⟩ := S.says.d.def_ 23 (d := d_Client_forget) rfl
  obtain ⟨fd_Client_close, D_Client_close⟩ := S.says.d.def_ 24 (d := d_Client_close) rfl
  obtain ⟨fd__law_named11, D__law_named11⟩ := S.says.d.def_ 25 (d := d__law_named11) rfl
  obtain ⟨fd__law_add11, D__law_add11⟩ := S.says.d.def_ 26 (d := d__law_add11) rfl
  obtain ⟨fd__law_kinds, D__law_kinds⟩ := S.says.d.def_ 27 (d := d__law_kinds) rfl
  obtain ⟨fd__law_told11, D__law_told11⟩ := S.says.d.def_ 28 (d := d__law_told11) rfl
  obtain ⟨fd_number_bytes, D_number_bytes⟩ := S.says.d.def_ 29 (d := d_number_bytes) rfl
  obtain ⟨fd_string_bytes, D_string_bytes⟩ := S.says.d.def_ 30 (d := d_string_bytes) rfl
  obtain ⟨fd_value_bytes, D_value_bytes⟩ := S.says.d.def_ 31 (d := d_value_bytes) rfl
  obtain ⟨fd_row_bytes, D_row_bytes⟩ := S.says.d.def_ 32 (d := d_row_bytes) rfl
  obtain ⟨fd_whole, D_whole⟩ := S.says.d.def_ 33 (d := d_whole) rfl
  obtain ⟨fd_client_bytes, D_client_bytes⟩ := S.says.d.def_ 34 (d := d_client_bytes) rfl
  obtain ⟨fd_Client__send, D_Client__send⟩ := S.says.d.def_ 35 (d := d_Client__send) rfl
  obtain ⟨fd_Client__send_batch, D_Client__send_batch⟩ := S.says.d.def_ 36 (d := d_Client__send_batch) rfl
  obtain ⟨fd_Client_sync, D_Client_sync⟩ := S.says.d.def_ 37 (d := d_Client_sync) rfl
  obtain ⟨fd__law_synced11, D__law_synced11⟩ := S.says.d.def_ 38 (d := d__law_synced11) rfl
  obtain ⟨fd_told, D_told⟩ := S.says.d.def_ 39 (d := d_told) rfl
  obtain ⟨fd_Client_outcome, D_Client_outcome⟩ := S.says.d.def_ 40 (d := d_Client_outcome) rfl
  obtain ⟨fd__law_outcome11, D__law_outcome11⟩ := S.says.d.def_ 41 (d := d__law_outcome11) rfl
  obtain ⟨fd__law_fifty11, D__law_fifty11⟩ := S.says.d.def_ 42 (d := d__law_fifty11) rfl
  obtain ⟨fd_law11, D_law11⟩ := S.says.d.def_ 43 (d := d_law11) rfl
  obtain ⟨fd_Client___init__, FS_Client___init__⟩ := SaysM.super S 0 (d := u_Client___init__) rfl
  obtain ⟨fd_Client_waiting, PP_Client_waiting⟩ := SaysM.prop S 0 (d := u_Client_waiting) rfl
  obtain ⟨fd_Client_phase, PP_Client_phase⟩ := SaysM.prop S 1 (d := u_Client_phase) rfl
  obtain ⟨fd_Client_handed, PP_Client_handed⟩ := SaysM.prop S 2 (d := u_Client_handed) rfl
  obtain ⟨fd_Client_session, PP_Client_session⟩ := SaysM.prop S 3 (d := u_Client_session) rfl
  obtain ⟨fd_Client_received, PP_Client_received⟩ := SaysM.prop S 4 (d := u_Client_received) rfl
  have e := hfa.symm.trans (He.glo_ok X G (S.fact 98 (f := .glo "law") rfl))
  cases e
  let p0 : Addr × Addr := (0, 0)
  refine ⟨fd_law11, fun s u => FunD.bindsA (ps := ["_law_script"]) D_law11 (fun _ _ _ _ _ _ us hl => match us, hl with | [_], _ => rfl) s [u] rfl, p0.2, fun z => absurd rfl z, fun base hK hN hT => ?_⟩
  let B : Bs := ⟨P, w, K, mg, base⟩
  have m_Wire : B.mg "Wire" = some (.ref (He.ga K "Wire")) := He.glo_ok X G (S.fact 0 (f := .glo "Wire") rfl)
  have c_Wire_ : Cls B.K (clsL K p0.2 13) := He.cls_ok (S.fact 1 (f := .cls "Wire") rfl)
  have mk_Wire := He.mkr_ok (S.fact 2 (f := .mkr "Wire") rfl)
  have a_Wire__is_good : NoAttr B.K (clsL K p0.2 13) "_is_good" := He.noat_ok (S.fact 3 (f := .noat "Wire" "_is_good") rfl)
  have a_Wire__left : NoAttr B.K (clsL K p0.2 13) "_left" := He.noat_ok (S.fact 4 (f := .noat "Wire" "_left") rfl)
  have a_Wire_side : NoAttr B.K (clsL K p0.2 13) "side" := He.noat_ok (S.fact 5 (f := .noat "Wire" "side") rfl)
  have m_End : B.mg "End" = some (.ref (He.ga K "End")) := He.glo_ok X G (S.fact 6 (f := .glo "End") rfl)
  have c_End_ : Cls B.K (clsL K p0.2 14) := He.cls_ok (S.fact 7 (f := .cls "End") rfl)
  have m_Client : B.mg "Client" = some (.ref (He.ga K "Client")) := He.glo_ok X G (S.fact 8 (f := .glo "Client") rfl)
  have c_Client_ : Cls B.K (clsL K p0.2 15) := He.cls_ok (S.fact 9 (f := .cls "Client") rfl)
  have a_Client__wire : NoAttr B.K (clsL K p0.2 15) "_wire" := He.noat_ok (S.fact 10 (f := .noat "Client" "_wire") rfl)
  have a_Client__to_send : NoAttr B.K (clsL K p0.2 15) "_to_send" := He.noat_ok (S.fact 11 (f := .noat "Client" "_to_send") rfl)
  have a_Client__reason : NoAttr B.K (clsL K p0.2 15) "_reason" := He.noat_ok (S.fact 12 (f := .noat "Client" "_reason") rfl)
  have a_Client__phase : NoAttr B.K (clsL K p0.2 15) "_phase" := He.noat_ok (S.fact 13 (f := .noat "Client" "_phase") rfl)
  have a_Client__other_side : NoAttr B.K (clsL K p0.2 15) "_other_side" := He.noat_ok (S.fact 14 (f := .noat "Client" "_other_side") rfl)
  have z_super : B.mg "super" = none := He.free_ok X G (S.fact 15 (f := .free "super") rfl)
  have mk_Client := He.mkr_ok (S.fact 16 (f := .mkr "Client") rfl)
  have a_Client__replies : NoAttr B.K (clsL K p0.2 15) "_replies" := He.noat_ok (S.fact 17 (f := .noat "Client" "_replies") rfl)
  have a_Client__outcomes : NoAttr B.K (clsL K p0.2 15) "_outcomes" := He.noat_ok (S.fact 18 (f := .noat "Client" "_outcomes") rfl)
  have a_Client__batches : NoAttr B.K (clsL K p0.2 15) "_batches" := He.noat_ok (S.fact 19 (f := .noat "Client" "_batches") rfl)
  have a_Client__commands : NoAttr B.K (clsL K p0.2 15) "_commands" := He.noat_ok (S.fact 20 (f := .noat "Client" "_commands") rfl)
  have a_Client__session : NoAttr B.K (clsL K p0.2 15) "_session" := He.noat_ok (S.fact 21 (f := .noat "Client" "_session") rfl)
  have m__law_wrong11 : B.mg "_law_wrong" = some (.ref (He.ga K "_law_wrong")) := He.glo_ok X G (S.fact 22 (f := .glo "_law_wrong") rfl)
  have m__law_row : B.mg "_law_row" = some (.ref (He.ga K "_law_row")) := He.glo_ok X G (S.fact 23 (f := .glo "_law_row") rfl)
  have z_int : B.mg "int" = none := He.free_ok X G (S.fact 24 (f := .free "int") rfl)
  have z_range : B.mg "range" = none := He.free_ok X G (S.fact 25 (f := .free "range") rfl)
  have m__law_name : B.mg "_law_name" = some (.ref (He.ga K "_law_name")) := He.glo_ok X G (S.fact 26 (f := .glo "_law_name") rfl)
  have m__law_text : B.mg "_law_text" = some (.ref (He.ga K "_law_text")) := He.glo_ok X G (S.fact 27 (f := .glo "_law_text") rfl)
  have m__law_value : B.mg "_law_value" = some (.ref (He.ga K "_law_value")) := He.glo_ok X G (S.fact 28 (f := .glo "_law_value") rfl)
  have m__law_term : B.mg "_law_term" = some (.ref (He.ga K "_law_term")) := He.glo_ok X G (S.fact 29 (f := .glo "_law_term") rfl)
  have z_isinstance : B.mg "isinstance" = none := He.free_ok X G (S.fact 30 (f := .free "isinstance") rfl)
  have z_str : B.mg "str" = none := He.free_ok X G (S.fact 31 (f := .free "str") rfl)
  have m__law_used : B.mg "_law_used" = some (.ref (He.ga K "_law_used")) := He.glo_ok X G (S.fact 32 (f := .glo "_law_used") rfl)
  have z_max : B.mg "max" = none := He.free_ok X G (S.fact 33 (f := .free "max") rfl)
  have z_tuple : B.mg "tuple" = none := He.free_ok X G (S.fact 34 (f := .free "tuple") rfl)
  have m__law_statement : B.mg "_law_statement" = some (.ref (He.ga K "_law_statement")) := He.glo_ok X G (S.fact 35 (f := .glo "_law_statement") rfl)
  have z_len : B.mg "len" = none := He.free_ok X G (S.fact 36 (f := .free "len") rfl)
  have m__law_written : B.mg "_law_written" = some (.ref (He.ga K "_law_written")) := He.glo_ok X G (S.fact 37 (f := .glo "_law_written") rfl)
  have m__law_unit : B.mg "_law_unit" = some (.ref (He.ga K "_law_unit")) := He.glo_ok X G (S.fact 38 (f := .glo "_law_unit") rfl)
  have m__law_units : B.mg "_law_units" = some (.ref (He.ga K "_law_units")) := He.glo_ok X G (S.fact 39 (f := .glo "_law_units") rfl)
  have m__law_cell11 : B.mg "_law_cell" = some (.ref (He.ga K "_law_cell")) := He.glo_ok X G (S.fact 40 (f := .glo "_law_cell") rfl)
  have mm_Client__added := He.meth_ok (S.fact 41 (f := .meth "Client" "_added") rfl)
  have y_MOST_COMMANDS := He.int_ok X G (S.fact 42 (f := .int "MOST_COMMANDS" 20) rfl)
  have m_BatchFull : B.mg "BatchFull" = some (.ref (He.ga K "BatchFull")) := He.glo_ok X G (S.fact 43 (f := .glo "BatchFull") rfl)
  have e_BatchFull := He.exc_ok (S.fact 44 (f := .exc "BatchFull") rfl)
  have m_InvalidCommand : B.mg "InvalidCommand" = some (.ref (He.ga K "InvalidCommand")) := He.glo_ok X G (S.fact 45 (f := .glo "InvalidCommand") rfl)
  have e_InvalidCommand := He.exc_ok (S.fact 46 (f := .exc "InvalidCommand") rfl)
  have m_is_string : B.mg "is_string" = some (.ref (He.ga K "is_string")) := He.glo_ok X G (S.fact 47 (f := .glo "is_string") rfl)
  have z_all : B.mg "all" = none := He.free_ok X G (S.fact 48 (f := .free "all") rfl)
  have y_SIGNS := He.str_ok X G (S.fact 49 (f := .str "SIGNS" " !\"#$&'()*+,-./0123456789:;<=>?@ABCDEFGHIJKLMNOPQRSTUVWXYZ[\\]^_`abcdefghijklmnopqrstuvwxyz{|}~") rfl)
  have y_LONGEST_STRING := He.int_ok X G (S.fact 50 (f := .int "LONGEST_STRING" 200) rfl)
  have m_is_name : B.mg "is_name" = some (.ref (He.ga K "is_name")) := He.glo_ok X G (S.fact 51 (f := .glo "is_name") rfl)
  have y_LETTERS := He.str_ok X G (S.fact 52 (f := .str "LETTERS" "abcdefghijklmnopqrstuvwxyz") rfl)
  have y_LONGEST_NAME := He.int_ok X G (S.fact 53 (f := .int "LONGEST_NAME" 8) rfl)
  have mm_Client_prepare := He.meth_ok (S.fact 54 (f := .meth "Client" "prepare") rfl)
  have m_is_text : B.mg "is_text" = some (.ref (He.ga K "is_text")) := He.glo_ok X G (S.fact 55 (f := .glo "is_text") rfl)
  have y_LONGEST_TEXT := He.int_ok X G (S.fact 56 (f := .int "LONGEST_TEXT" 40) rfl)
  have m_is_integer : B.mg "is_integer" = some (.ref (He.ga K "is_integer")) := He.glo_ok X G (S.fact 57 (f := .glo "is_integer") rfl)
  have z_bool : B.mg "bool" = none := He.free_ok X G (S.fact 58 (f := .free "bool") rfl)
  have m_is_value : B.mg "is_value" = some (.ref (He.ga K "is_value")) := He.glo_ok X G (S.fact 59 (f := .glo "is_value") rfl)
  have y_GREATEST := He.int_ok X G (S.fact 60 (f := .int "GREATEST" 2147483647) rfl)
  have y_LEAST := He.int_ok X G (S.fact 61 (f := .int "LEAST" (-2147483648)) rfl)
  have mm_Client_bind := He.meth_ok (S.fact 62 (f := .meth "Client" "bind") rfl)
  have y_MOST_VALUES := He.int_ok X G (S.fact 63 (f := .int "MOST_VALUES" 4) rfl)
  have z_list : B.mg "list" = none := He.free_ok X G (S.fact 64 (f := .free "list") rfl)
  have mm_Client_run := He.meth_ok (S.fact 65 (f := .meth "Client" "run") rfl)
  have y_MOST_AT_ONCE := He.int_ok X G (S.fact 66 (f := .int "MOST_AT_ONCE" 1000) rfl)
  have mm_Client_forget := He.meth_ok (S.fact 67 (f := .meth "Client" "forget") rfl)
  have mm_Client_close := He.meth_ok (S.fact 68 (f := .meth "Client" "close") rfl)
  have m__law_named11 : B.mg "_law_named" = some (.ref (He.ga K "_law_named")) := He.glo_ok X G (S.fact 69 (f := .glo "_law_named") rfl)
  have m__law_add11 : B.mg "_law_add" = some (.ref (He.ga K "_law_add")) := He.glo_ok X G (S.fact 70 (f := .glo "_law_add") rfl)
  have m__law_kinds : B.mg "_law_kinds" = some (.ref (He.ga K "_law_kinds")) := He.glo_ok X G (S.fact 71 (f := .glo "_law_kinds") rfl)
  have m__law_told11 : B.mg "_law_told" = some (.ref (He.ga K "_law_told")) := He.glo_ok X G (S.fact 72 (f := .glo "_law_told") rfl)
  have m_EndError : B.mg "EndError" = some (.ref (He.ga K "EndError")) := He.glo_ok X G (S.fact 73 (f := .glo "EndError") rfl)
  have m_Unreadable : B.mg "Unreadable" = some (.ref (He.ga K "Unreadable")) := He.glo_ok X G (S.fact 74 (f := .glo "Unreadable") rfl)
  have m_TooManyBatches : B.mg "TooManyBatches" = some (.ref (He.ga K "TooManyBatches")) := He.glo_ok X G (S.fact 75 (f := .glo "TooManyBatches") rfl)
  have m_NotClosed : B.mg "NotClosed" = some (.ref (He.ga K "NotClosed")) := He.glo_ok X G (S.fact 76 (f := .glo "NotClosed") rfl)
  have m_NoSuchBatch : B.mg "NoSuchBatch" = some (.ref (He.ga K "NoSuchBatch")) := He.glo_ok X G (S.fact 77 (f := .glo "NoSuchBatch") rfl)
  have z_ValueError : B.mg "ValueError" = none := He.free_ok X G (S.fact 78 (f := .free "ValueError") rfl)
  have m_number_bytes : B.mg "number_bytes" = some (.ref (He.ga K "number_bytes")) := He.glo_ok X G (S.fact 79 (f := .glo "number_bytes") rfl)
  have m_string_bytes : B.mg "string_bytes" = some (.ref (He.ga K "string_bytes")) := He.glo_ok X G (S.fact 80 (f := .glo "string_bytes") rfl)
  have z_ord : B.mg "ord" = none := He.free_ok X G (S.fact 81 (f := .free "ord") rfl)
  have m_value_bytes : B.mg "value_bytes" = some (.ref (He.ga K "value_bytes")) := He.glo_ok X G (S.fact 82 (f := .glo "value_bytes") rfl)
  have m_row_bytes : B.mg "row_bytes" = some (.ref (He.ga K "row_bytes")) := He.glo_ok X G (S.fact 83 (f := .glo "row_bytes") rfl)
  have m_whole : B.mg "whole" = some (.ref (He.ga K "whole")) := He.glo_ok X G (S.fact 84 (f := .glo "whole") rfl)
  have m_client_bytes : B.mg "client_bytes" = some (.ref (He.ga K "client_bytes")) := He.glo_ok X G (S.fact 85 (f := .glo "client_bytes") rfl)
  have m_CLIENT_WORDS : B.mg "CLIENT_WORDS" = some (.ref (He.ga K "CLIENT_WORDS")) := He.glo_ok X G (S.fact 86 (f := .glo "CLIENT_WORDS") rfl)
  have mm_Client__send := He.meth_ok (S.fact 87 (f := .meth "Client" "_send") rfl)
  have mm_Client__send_batch := He.meth_ok (S.fact 88 (f := .meth "Client" "_send_batch") rfl)
  have mm_Client_sync := He.meth_ok (S.fact 89 (f := .meth "Client" "sync") rfl)
  have y_MOST_BATCHES := He.int_ok X G (S.fact 90 (f := .int "MOST_BATCHES" 50) rfl)
  have e_TooManyBatches := He.exc_ok (S.fact 91 (f := .exc "TooManyBatches") rfl)
  have m__law_synced11 : B.mg "_law_synced" = some (.ref (He.ga K "_law_synced")) := He.glo_ok X G (S.fact 92 (f := .glo "_law_synced") rfl)
  have m_told : B.mg "told" = some (.ref (He.ga K "told")) := He.glo_ok X G (S.fact 93 (f := .glo "told") rfl)
  have mm_Client_outcome := He.meth_ok (S.fact 94 (f := .meth "Client" "outcome") rfl)
  have e_NoSuchBatch := He.exc_ok (S.fact 95 (f := .exc "NoSuchBatch") rfl)
  have m__law_outcome11 : B.mg "_law_outcome" = some (.ref (He.ga K "_law_outcome")) := He.glo_ok X G (S.fact 96 (f := .glo "_law_outcome") rfl)
  have m__law_fifty11 : B.mg "_law_fifty" = some (.ref (He.ga K "_law_fifty")) := He.glo_ok X G (S.fact 97 (f := .glo "_law_fifty") rfl)
  have m_law11 : B.mg "law" = some (.ref (He.ga K "law")) := He.glo_ok X G (S.fact 98 (f := .glo "law") rfl)
  have z_repr : B.mg "repr" = none := He.free_ok X G (S.fact 99 (f := .free "repr") rfl)
  have z_min : B.mg "min" = none := He.free_ok X G (S.fact 100 (f := .free "min") rfl)
  have t_CLIENT_WORDS : GtC B "CLIENT_WORDS" ["", "hello", "prepare", "bind", "run", "forget", "close", "sync"] := SaysM.gt (B := B) S 0 rfl m_CLIENT_WORDS
  have r_BatchFull : RsC B (clsL K p0.2) "BatchFull" x_BatchFull := ⟨m_BatchFull, e_BatchFull.2.1, by decide, ⟨_, _, _, _, PySem.F.excBase_ValueError, e_BatchFull.1⟩, e_BatchFull.2.2.1, e_BatchFull.2.2.2⟩
  have r_InvalidCommand : RsC B (clsL K p0.2) "InvalidCommand" x_InvalidCommand := ⟨m_InvalidCommand, e_InvalidCommand.2.1, by decide, ⟨_, _, _, _, PySem.F.excBase_ValueError, e_InvalidCommand.1⟩, e_InvalidCommand.2.2.1, e_InvalidCommand.2.2.2⟩
  have r_TooManyBatches : RsC B (clsL K p0.2) "TooManyBatches" x_TooManyBatches := ⟨m_TooManyBatches, e_TooManyBatches.2.1, by decide, ⟨_, _, _, _, PySem.F.excBase_ValueError, e_TooManyBatches.1⟩, e_TooManyBatches.2.2.1, e_TooManyBatches.2.2.2⟩
  have r_NoSuchBatch : RsC B (clsL K p0.2) "NoSuchBatch" x_NoSuchBatch := ⟨m_NoSuchBatch, e_NoSuchBatch.2.1, by decide, ⟨_, _, _, _, PySem.F.excBase_ValueError, e_NoSuchBatch.1⟩, e_NoSuchBatch.2.2.1, e_NoSuchBatch.2.2.2⟩
  have f__is_good_13 : FdC B (clsL K p0.2) [13] "_is_good" := fun c hc => by
    rw [List.mem_singleton.mp hc]
    exact ⟨c_Wire_, a_Wire__is_good⟩
  have f__left_13 : FdC B (clsL K p0.2) [13] "_left" := fun c hc => by
    rw [List.mem_singleton.mp hc]
    exact ⟨c_Wire_, a_Wire__left⟩
  have f_side_13 : FdC B (clsL K p0.2) [13] "side" := fun c hc => by
    rw [List.mem_singleton.mp hc]
    exact ⟨c_Wire_, a_Wire_side⟩
  have f__wire_15 : FdC B (clsL K p0.2) [15] "_wire" := fun c hc => by
    rw [List.mem_singleton.mp hc]
    exact ⟨c_Client_, a_Client__wire⟩
  have f__to_send_15 : FdC B (clsL K p0.2) [15] "_to_send" := fun c hc => by
    rw [List.mem_singleton.mp hc]
    exact ⟨c_Client_, a_Client__to_send⟩
  have f__reason_15 : FdC B (clsL K p0.2) [15] "_reason" := fun c hc => by
    rw [List.mem_singleton.mp hc]
    exact ⟨c_Client_, a_Client__reason⟩
  have f__phase_15 : FdC B (clsL K p0.2) [15] "_phase" := fun c hc => by
    rw [List.mem_singleton.mp hc]
    exact ⟨c_Client_, a_Client__phase⟩
  have f__other_side_15 : FdC B (clsL K p0.2) [15] "_other_side" := fun c hc => by
    rw [List.mem_singleton.mp hc]
    exact ⟨c_Client_, a_Client__other_side⟩
  have f__replies_15 : FdC B (clsL K p0.2) [15] "_replies" := fun c hc => by
    rw [List.mem_singleton.mp hc]
    exact ⟨c_Client_, a_Client__replies⟩
  have f__outcomes_15 : FdC B (clsL K p0.2) [15] "_outcomes" := fun c hc => by
    rw [List.mem_singleton.mp hc]
    exact ⟨c_Client_, a_Client__outcomes⟩
  have f__batches_15 : FdC B (clsL K p0.2) [15] "_batches" := fun c hc => by
    rw [List.mem_singleton.mp hc]
    exact ⟨c_Client_, a_Client__batches⟩
  have f__commands_15 : FdC B (clsL K p0.2) [15] "_commands" := fun c hc => by
    rw [List.mem_singleton.mp hc]
    exact ⟨c_Client_, a_Client__commands⟩
  have f__session_15 : FdC B (clsL K p0.2) [15] "_session" := fun c hc => by
    rw [List.mem_singleton.mp hc]
    exact ⟨c_Client_, a_Client__session⟩
  have F__law_kinds : Fun B.K "_law_kinds" "_law_kinds" s__law_kinds (He.ga K "_law_kinds") fd__law_kinds := fun_of D__law_kinds
  have kd0 : KindF B 1 := ⟨⟨_, _, m__law_kinds, F__law_kinds.kp, kinds_run F__law_kinds sc__law_kinds z_isinstance z_range k__law_kinds, F__law_kinds.binds (ps := ["_law_e"]) fun _ _ _ _ _ _ us hl => match us, hl with | [_], _ => rfl⟩⟩
  have kdF : ∀ k, 1 ≤ k → KindF B k := fun k hk => kd0.mono hk
  have kg : ∀ y ∈ kindCls, B.mg y = some (.ref (He.ga B.K y)) := fun y hy => by
    simp only [kindCls, List.mem_cons, List.not_mem_nil, or_false] at hy
    rcases hy with rfl | rfl | rfl | rfl | rfl | rfl
    · exact m_Unreadable
    · exact m_InvalidCommand
    · exact m_BatchFull
    · exact m_TooManyBatches
    · exact m_NotClosed
    · exact m_NoSuchBatch
  have kc : ∀ j y, kindCls[j]? = some y → clsL K p0.2 (j + 1) = He.ga B.K y := fun j y hy => match j, hy with
    | 0, hy => by cases hy; rfl
    | 1, hy => by cases hy; rfl
    | 2, hy => by cases hy; rfl
    | 3, hy => by cases hy; rfl
    | 4, hy => by cases hy; rfl
    | 5, hy => by cases hy; rfl
  have tf_BatchFull : TryF B (clsL K p0.2) 3 "BatchFull" := tryF_of (S.knd rfl) m_EndError kg rfl kc (.inr ⟨2, rfl, rfl⟩) (by decide)
  have tf_InvalidCommand : TryF B (clsL K p0.2) 2 "InvalidCommand" := tryF_of (S.knd rfl) m_EndError kg rfl kc (.inr ⟨1, rfl, rfl⟩) (by decide)
  have tf_NoSuchBatch : TryF B (clsL K p0.2) 6 "NoSuchBatch" := tryF_of (S.knd rfl) m_EndError kg rfl kc (.inr ⟨5, rfl, rfl⟩) (by decide)
  have tf_TooManyBatches : TryF B (clsL K p0.2) 4 "TooManyBatches" := tryF_of (S.knd rfl) m_EndError kg rfl kc (.inr ⟨3, rfl, rfl⟩) (by decide)
  have F_Wire___init__ := fun_of (st := s_Wire___init__) D_Wire___init__
  have o_Wire___init__ := ok_Wire___init__ (B := B) (T := cs.map (·.2)) (cls := clsL K p0.2) f__is_good_13 f__left_13 f_side_13 F_Wire___init__
  have n_Wire_1 := nw_fn (B := B) (T := cs.map (·.2)) (cls := clsL K p0.2) (x := "Wire") (c := 13) m_Wire (by decide) mk_Wire o_Wire___init__ (fb2 F_Wire___init__ fun _ _ _ _ _ _ _ _ => rfl)
  have F_EndC___init__ := fun_of (st := s_EndC___init__) D_EndC___init__
  have o_EndC___init__ := ok_EndC___init__ (B := B) f__wire_15 f__to_send_15 f__reason_15 f__phase_15 f__other_side_15 n_Wire_1 F_EndC___init__
  have o_Client___init__ := ok_Client___init__ (B := B) (T := cs.map (·.2)) (cls := clsL K p0.2) FS_Client___init__ rfl z_super hsu hfi (F_EndC___init__.binds (ps := ["self", "other_side"]) fun _ _ _ _ _ _ us hl => match us, hl with | [_, _], _ => rfl) f__replies_15 f__outcomes_15 f__batches_15 f__commands_15 f__session_15 o_EndC___init__
  have n_Client_0 := nw_fn (B := B) (T := cs.map (·.2)) (cls := clsL K p0.2) (x := "Client") (c := 15) m_Client (by decide) mk_Client o_Client___init__ (FS_Client___init__.binds (ps := ["self"]) fun _ _ _ _ _ _ _ us hl => match us, hl with | [_], _ => rfl)
  have F__law_wrong11 := fun_of (st := s__law_wrong11) D__law_wrong11
  have o__law_wrong11 := ok__law_wrong11 (B := B) (T := cs.map (·.2)) (cls := clsL K p0.2) F__law_wrong11
  have h__law_wrong11 := fc_fn o__law_wrong11 m__law_wrong11 F__law_wrong11.kp (F__law_wrong11.binds (ps := []) fun _ _ _ _ _ _ us hl => match us, hl with | [], _ => rfl) (by decide)
  have F__law_row := fun_of (st := s__law_row) D__law_row
  have h__law_row := calZ F__law_row (ok__law_row (B := B) (T := cs.map (·.2)) (cls := clsL K p0.2) z_int z_range F__law_row) m__law_row (fb2 F__law_row fun _ _ _ _ _ _ _ _ => rfl)
  have F__law_name := fun_of (st := s__law_name) D__law_name
  have h__law_name := calZ F__law_name (ok__law_name (B := B) (T := cs.map (·.2)) (cls := clsL K p0.2) z_range F__law_name) m__law_name (fb1 F__law_name fun _ _ _ _ _ _ _ => rfl)
  have F__law_text := fun_of (st := s__law_text) D__law_text
  have h__law_text := calZ F__law_text (ok__law_text (B := B) z_range h__law_name F__law_text) m__law_text (fb1 F__law_text fun _ _ _ _ _ _ _ => rfl)
  have F__law_value := fun_of (st := s__law_value) D__law_value
  have h__law_value := calZ F__law_value (ok__law_value (B := B) h__law_text F__law_value) m__law_value (fb1 F__law_value fun _ _ _ _ _ _ _ => rfl)
  have F__law_term := fun_of (st := s__law_term) D__law_term
  have h__law_term := calZ F__law_term (ok__law_term (B := B) z_isinstance z_str h__law_value F__law_term) m__law_term (fb2 F__law_term fun _ _ _ _ _ _ _ _ => rfl)
  have F__law_used := fun_of (st := s__law_used) D__law_used
  have h__law_used := calZ F__law_used (ok__law_used (B := B) (T := cs.map (·.2)) (cls := clsL K p0.2) z_isinstance z_max z_tuple F__law_used) m__law_used (fb1 F__law_used fun _ _ _ _ _ _ _ => rfl)
  have F__law_statement := fun_of (st := s__law_statement) D__law_statement
  have h__law_statement := calZ F__law_statement (ok__law_statement (B := B) z_range z_tuple z_len h__law_term h__law_used F__law_statement) m__law_statement (fb2 F__law_statement fun _ _ _ _ _ _ _ _ => rfl)
  have F__law_written := fun_of (st := s__law_written) D__law_written
  have h__law_written := calZ F__law_written (ok__law_written (B := B) (T := cs.map (·.2)) (cls := clsL K p0.2) z_int z_isinstance z_str F__law_written) m__law_written (fb1 F__law_written fun _ _ _ _ _ _ _ => rfl)
  have F__law_unit := fun_of (st := s__law_unit) D__law_unit
  have h__law_unit := calZ F__law_unit (ok__law_unit (B := B) z_range h__law_value z_tuple h__law_used h__law_statement h__law_written F__law_unit) m__law_unit (fb1 F__law_unit fun _ _ _ _ _ _ _ => rfl)
  have F__law_units := fun_of (st := s__law_units) D__law_units
  have h__law_units := calZ F__law_units (ok__law_units (B := B) z_range h__law_row h__law_unit F__law_units) m__law_units (fb2 F__law_units fun _ _ _ _ _ _ _ _ => rfl)
  have F__law_cell11 := fun_of (st := s__law_cell11) D__law_cell11
  have h__law_cell11 := calZ F__law_cell11 (ok__law_cell11 (B := B) (T := cs.map (·.2)) (cls := clsL K p0.2) z_len F__law_cell11) m__law_cell11 (fb2 F__law_cell11 fun _ _ _ _ _ _ _ _ => rfl)
  have F_Client__added := fun_of (st := s_Client__added) D_Client__added
  have o_Client__added := ok_Client__added (B := B) (T := cs.map (·.2)) (cls := clsL K p0.2) z_len f__commands_15 y_MOST_COMMANDS r_BatchFull r_InvalidCommand F_Client__added
  have h_Client__added := meZ F_Client__added o_Client__added c_Client_ mm_Client__added (fb3 F_Client__added fun _ _ _ _ _ _ _ _ _ => rfl)
  have l_is_string : ∀ cdv, PySem.W.codeIn B.K cdv "is_string" = true → (∃ oc od kV doc pm an ct osl, B.K.lookup (He.ga K "is_string") = some ⟨oc, od, .func (PySem.W.fnOf "is_string" "is_string" (defArgs s_is_string) (defBody s_is_string) (defScope s_is_string) .none kV doc pm an cdv ct), osl⟩) → ∃ c P, cdv = .ref c ∧ GxR.TabB B.base B.mg c P ∧ P ∈ cs.map (·.2) := by
    rintro cdv _ ⟨oc, od, kV, doc, pm, an, ct, osl, lk⟩
    obtain ⟨p, hp, hl⟩ := S.link "is_string" (by decide +kernel)
    have t := hT p (List.mem_append_left _ hp)
    exact ⟨p.1, p.2, code_link hl lk, ⟨t.code, t.bm, t.gP⟩, List.mem_map_of_mem hp⟩
  have F_is_string : Fun B.K "is_string" "is_string" s_is_string (He.ga K "is_string") fd_is_string := fun_of D_is_string
  have o_is_string := ok_is_string (B := B) (T := cs.map (·.2)) (cls := clsL K p0.2) F_is_string l_is_string z_all y_SIGNS z_len y_LONGEST_STRING z_isinstance z_str
  have h_is_string := cal_fn o_is_string m_is_string F_is_string.kp (F_is_string.binds (ps := ["value"]) fun _ _ _ _ _ _ us hl => match us, hl with | [_], _ => rfl) (by decide)
  have l_is_name : ∀ cdv, PySem.W.codeIn B.K cdv "is_name" = true → (∃ oc od kV doc pm an ct osl, B.K.lookup (He.ga K "is_name") = some ⟨oc, od, .func (PySem.W.fnOf "is_name" "is_name" (defArgs s_is_name) (defBody s_is_name) (defScope s_is_name) .none kV doc pm an cdv ct), osl⟩) → ∃ c P, cdv = .ref c ∧ GxR.TabB B.base B.mg c P ∧ P ∈ cs.map (·.2) := by
    rintro cdv _ ⟨oc, od, kV, doc, pm, an, ct, osl, lk⟩
    obtain ⟨p, hp, hl⟩ := S.link "is_name" (by decide +kernel)
    have t := hT p (List.mem_append_left _ hp)
    exact ⟨p.1, p.2, code_link hl lk, ⟨t.code, t.bm, t.gP⟩, List.mem_map_of_mem hp⟩
  have F_is_name : Fun B.K "is_name" "is_name" s_is_name (He.ga K "is_name") fd_is_name := fun_of D_is_name
  have o_is_name := ok_is_name (B := B) (T := cs.map (·.2)) (cls := clsL K p0.2) F_is_name l_is_name z_all y_LETTERS z_len y_LONGEST_NAME z_isinstance z_str
  have h_is_name := cal_fn o_is_name m_is_name F_is_name.kp (F_is_name.binds (ps := ["value"]) fun _ _ _ _ _ _ us hl => match us, hl with | [_], _ => rfl) (by decide)
  have F_Client_prepare := fun_of (st := s_Client_prepare) D_Client_prepare
  have o_Client_prepare := ok_Client_prepare (B := B) h_Client__added h_is_string h_is_name F_Client_prepare
  have h_Client_prepare := meZ F_Client_prepare o_Client_prepare c_Client_ mm_Client_prepare (fb3 F_Client_prepare fun _ _ _ _ _ _ _ _ _ => rfl)
  have hk_Client_prepare := me_kw (B := B) (T := cs.map (·.2)) (cls := clsL K p0.2) (c := 15) (m := "prepare") c_Client_ mm_Client_prepare o_Client_prepare (kb_fun (ps := ["self", "name", "string"]) (ks := ["name", "string"]) F_Client_prepare fun _ _ _ _ _ _ us ws h1 h2 => match us, ws, h1, h2 with | [_], [_, _], _, _ => rfl) rfl
  have F_is_text := fun_of (st := s_is_text) D_is_text
  have h_is_text := calZ F_is_text (ok_is_text (B := B) z_len h_is_string y_LONGEST_TEXT F_is_text) m_is_text (fb1 F_is_text fun _ _ _ _ _ _ _ => rfl)
  have F_is_integer := fun_of (st := s_is_integer) D_is_integer
  have h_is_integer := calZ F_is_integer (ok_is_integer (B := B) (T := cs.map (·.2)) (cls := clsL K p0.2) z_int z_isinstance z_bool F_is_integer) m_is_integer (fb3 F_is_integer fun _ _ _ _ _ _ _ _ _ => rfl)
  have F_is_value := fun_of (st := s_is_value) D_is_value
  have h_is_value := calZ F_is_value (ok_is_value (B := B) y_GREATEST y_LEAST h_is_text h_is_integer F_is_value) m_is_value (fb1 F_is_value fun _ _ _ _ _ _ _ => rfl)
  have F_Client_bind := fun_of (st := s_Client_bind) D_Client_bind
  have o_Client_bind := ok_Client_bind (B := B) z_isinstance z_tuple z_len h_Client__added h_is_name y_MOST_VALUES z_list z_all h_is_value F_Client_bind
  have h_Client_bind := meZ F_Client_bind o_Client_bind c_Client_ mm_Client_bind (fb4 F_Client_bind fun _ _ _ _ _ _ _ _ _ _ => rfl)
  have hk_Client_bind := me_kw (B := B) (T := cs.map (·.2)) (cls := clsL K p0.2) (c := 15) (m := "bind") c_Client_ mm_Client_bind o_Client_bind (kb_fun (ps := ["self", "portal", "name", "values"]) (ks := ["portal", "name", "values"]) F_Client_bind fun _ _ _ _ _ _ us ws h1 h2 => match us, ws, h1, h2 with | [_], [_, _, _], _, _ => rfl) rfl
  have o_Client_run := ok_Client_run (B := B) (T := cs.map (·.2)) (cls := clsL K p0.2) D_Client_run h_Client__added y_MOST_AT_ONCE h_is_integer h_is_name
  have h_Client_run_1 := me_fnD (B := B) (T := cs.map (·.2)) (cls := clsL K p0.2) (c := 15) (m := "run") (dd := [.int 0]) (vv := [V.int 0]) c_Client_ mm_Client_run o_Client_run (FunD.binds1 (ps := ["self", "portal", "most"]) D_Client_run 2 0 (by simp [He.DefD.dvs, d_Client_run]) rfl fun T kV doc pm an cdv ct us its h1 h2 => match us, its, h1, h2 with | [_, _], [_], _, _ => ⟨_, rfl, rfl⟩) (fun _ => ⟨_, _, rfl, rfl, rfl⟩)
  have h_Client_run := me_fn (B := B) (T := cs.map (·.2)) (cls := clsL K p0.2) (c := 15) (m := "run") c_Client_ mm_Client_run o_Client_run (binds_full (FunD.binds1 (ps := ["self", "portal", "most"]) D_Client_run 3 1 (by simp [He.DefD.dvs, d_Client_run]) rfl fun T kV doc pm an cdv ct us its h1 h2 => match us, its, h1, h2 with | [_, _, _], [_], _, _ => ⟨_, rfl, rfl⟩))
  have hk_Client_run := me_kw (B := B) (T := cs.map (·.2)) (cls := clsL K p0.2) (c := 15) (m := "run") c_Client_ mm_Client_run o_Client_run (kb_funD (ps := ["self", "portal", "most"]) (ks := ["portal", "most"]) D_Client_run (by simp [He.DefD.dvs, d_Client_run]) fun T kV doc pm an cdv ct us its ws h1 h2 h3 => match us, its, ws, h1, h2, h3 with | [_], [_], [_, _], _, _, _ => ⟨_, rfl, rfl⟩) rfl
  have F_Client_forget := fun_of (st := s_Client_forget) D_Client_forget
  have o_Client_forget := ok_Client_forget (B := B) h_Client__added h_is_name F_Client_forget
  have h_Client_forget := meZ F_Client_forget o_Client_forget c_Client_ mm_Client_forget (fb2 F_Client_forget fun _ _ _ _ _ _ _ _ => rfl)
  have hk_Client_forget := me_kw (B := B) (T := cs.map (·.2)) (cls := clsL K p0.2) (c := 15) (m := "forget") c_Client_ mm_Client_forget o_Client_forget (kb_fun (ps := ["self", "name"]) (ks := ["name"]) F_Client_forget fun _ _ _ _ _ _ us ws h1 h2 => match us, ws, h1, h2 with | [_], [_], _, _ => rfl) rfl
  have F_Client_close := fun_of (st := s_Client_close) D_Client_close
  have o_Client_close := ok_Client_close (B := B) h_Client__added h_is_name F_Client_close
  have h_Client_close := meZ F_Client_close o_Client_close c_Client_ mm_Client_close (fb2 F_Client_close fun _ _ _ _ _ _ _ _ => rfl)
  have hk_Client_close := me_kw (B := B) (T := cs.map (·.2)) (cls := clsL K p0.2) (c := 15) (m := "close") c_Client_ mm_Client_close o_Client_close (kb_fun (ps := ["self", "portal"]) (ks := ["portal"]) F_Client_close fun _ _ _ _ _ _ us ws h1 h2 => match us, ws, h1, h2 with | [_], [_], _, _ => rfl) rfl
  have F__law_named11 := fun_of (st := s__law_named11) D__law_named11
  have h__law_named11 := calZ F__law_named11 (ok__law_named11 (B := B) hk_Client_prepare hk_Client_bind hk_Client_run hk_Client_forget hk_Client_close F__law_named11) m__law_named11 (fb2 F__law_named11 fun _ _ _ _ _ _ _ _ => rfl)
  have F__law_add11 := fun_of (st := s__law_add11) D__law_add11
  have h__law_add11 := calZ F__law_add11 (ok__law_add11 (B := B) z_isinstance z_str z_len h_Client_prepare h_Client_bind h_Client_run_1 h_Client_run h_Client_forget h_Client_close h__law_named11 F__law_add11) m__law_add11 (fb2 F__law_add11 fun _ _ _ _ _ _ _ _ => rfl)
  have F__law_told11 := fun_of (st := s__law_told11) D__law_told11
  have h__law_told11 := calZ F__law_told11 (ok__law_told11 (B := B) z_isinstance kdF tf_BatchFull tf_InvalidCommand z_ValueError h__law_add11 F__law_told11) m__law_told11 (fb2 F__law_told11 fun _ _ _ _ _ _ _ _ => rfl)
  have o_Client_waiting := ok_Client_waiting (B := B) (T := cs.map (·.2)) (cls := clsL K p0.2) f__to_send_15 z_len PP_Client_waiting.fn
  have p_Client_waiting := pr_fn (B := B) (T := cs.map (·.2)) (cls := clsL K p0.2) (c := 15) (d := u_Client_waiting) c_Client_ rfl PP_Client_waiting o_Client_waiting (PP_Client_waiting.fn.binds (ps := ["self"]) fun _ _ _ _ _ _ us hl => match us, hl with | [_], _ => rfl)
  have o_Client_phase := ok_Client_phase (B := B) (T := cs.map (·.2)) (cls := clsL K p0.2) f__phase_15 PP_Client_phase.fn
  have p_Client_phase := pr_fn (B := B) (T := cs.map (·.2)) (cls := clsL K p0.2) (c := 15) (d := u_Client_phase) c_Client_ rfl PP_Client_phase o_Client_phase (PP_Client_phase.fn.binds (ps := ["self"]) fun _ _ _ _ _ _ us hl => match us, hl with | [_], _ => rfl)
  have F_number_bytes := fun_of (st := s_number_bytes) D_number_bytes
  have h_number_bytes := calZ F_number_bytes (ok_number_bytes (B := B) (T := cs.map (·.2)) (cls := clsL K p0.2) z_range F_number_bytes) m_number_bytes (fb2 F_number_bytes fun _ _ _ _ _ _ _ _ => rfl)
  have F_string_bytes := fun_of (st := s_string_bytes) D_string_bytes
  have h_string_bytes := calZ F_string_bytes (ok_string_bytes (B := B) (T := cs.map (·.2)) (cls := clsL K p0.2) z_len z_ord F_string_bytes) m_string_bytes (fb1 F_string_bytes fun _ _ _ _ _ _ _ => rfl)
  have F_value_bytes := fun_of (st := s_value_bytes) D_value_bytes
  have h_value_bytes := calZ F_value_bytes (ok_value_bytes (B := B) z_isinstance z_str h_number_bytes h_string_bytes F_value_bytes) m_value_bytes (fb1 F_value_bytes fun _ _ _ _ _ _ _ => rfl)
  have F_row_bytes := fun_of (st := s_row_bytes) D_row_bytes
  have h_row_bytes := calZ F_row_bytes (ok_row_bytes (B := B) z_len h_value_bytes F_row_bytes) m_row_bytes (fb1 F_row_bytes fun _ _ _ _ _ _ _ => rfl)
  have F_whole := fun_of (st := s_whole) D_whole
  have h_whole := calZ F_whole (ok_whole (B := B) z_len h_number_bytes F_whole) m_whole (fb2 F_whole fun _ _ _ _ _ _ _ _ => rfl)
  have F_client_bytes := fun_of (st := s_client_bytes) D_client_bytes
  have h_client_bytes := calZ F_client_bytes (ok_client_bytes (B := B) h_number_bytes h_string_bytes t_CLIENT_WORDS h_row_bytes h_whole F_client_bytes) m_client_bytes (fb1 F_client_bytes fun _ _ _ _ _ _ _ => rfl)
  have F_Client__send := fun_of (st := s_Client__send) D_Client__send
  have o_Client__send := ok_Client__send (B := B) f__to_send_15 h_client_bytes F_Client__send
  have h_Client__send := meZ F_Client__send o_Client__send c_Client_ mm_Client__send (fb2 F_Client__send fun _ _ _ _ _ _ _ _ => rfl)
  have F_Client__send_batch := fun_of (st := s_Client__send_batch) D_Client__send_batch
  have o_Client__send_batch := ok_Client__send_batch (B := B) z_len h_Client__send f__batches_15 f__outcomes_15 F_Client__send_batch
  have h_Client__send_batch := meZ F_Client__send_batch o_Client__send_batch c_Client_ mm_Client__send_batch (fb2 F_Client__send_batch fun _ _ _ _ _ _ _ _ => rfl)
  have F_Client_sync := fun_of (st := s_Client_sync) D_Client_sync
  have o_Client_sync := ok_Client_sync (B := B) f__phase_15 z_len f__commands_15 f__batches_15 y_MOST_BATCHES r_TooManyBatches h_Client__send_batch F_Client_sync
  have h_Client_sync := meZ F_Client_sync o_Client_sync c_Client_ mm_Client_sync (fb1 F_Client_sync fun _ _ _ _ _ _ _ => rfl)
  have F__law_synced11 := fun_of (st := s__law_synced11) D__law_synced11
  have h__law_synced11 := calZ F__law_synced11 (ok__law_synced11 (B := B) z_isinstance kdF z_ValueError h_Client_sync tf_TooManyBatches F__law_synced11) m__law_synced11 (fb1 F__law_synced11 fun _ _ _ _ _ _ _ => rfl)
  have o_Client_handed := ok_Client_handed (B := B) (T := cs.map (·.2)) (cls := clsL K p0.2) z_len f__batches_15 PP_Client_handed.fn
  have p_Client_handed := pr_fn (B := B) (T := cs.map (·.2)) (cls := clsL K p0.2) (c := 15) (d := u_Client_handed) c_Client_ rfl PP_Client_handed o_Client_handed (PP_Client_handed.fn.binds (ps := ["self"]) fun _ _ _ _ _ _ us hl => match us, hl with | [_], _ => rfl)
  have F_told := fun_of (st := s_told) D_told
  have h_told := calZ F_told (ok_told (B := B) (T := cs.map (·.2)) (cls := clsL K p0.2) z_list F_told) m_told (fb1 F_told fun _ _ _ _ _ _ _ => rfl)
  have F_Client_outcome := fun_of (st := s_Client_outcome) D_Client_outcome
  have o_Client_outcome := ok_Client_outcome (B := B) z_len h_is_integer f__batches_15 f__outcomes_15 r_NoSuchBatch h_told F_Client_outcome
  have h_Client_outcome := meZ F_Client_outcome o_Client_outcome c_Client_ mm_Client_outcome (fb2 F_Client_outcome fun _ _ _ _ _ _ _ _ => rfl)
  have F__law_outcome11 := fun_of (st := s__law_outcome11) D__law_outcome11
  have h__law_outcome11 := calZ F__law_outcome11 (ok__law_outcome11 (B := B) z_isinstance kdF z_ValueError h_Client_outcome tf_NoSuchBatch F__law_outcome11) m__law_outcome11 (fb2 F__law_outcome11 fun _ _ _ _ _ _ _ _ => rfl)
  have F__law_fifty11 := fun_of (st := s__law_fifty11) D__law_fifty11
  have h__law_fifty11 := calZ F__law_fifty11 (ok__law_fifty11 (B := B) p_Client_handed h__law_told11 h__law_synced11 F__law_fifty11) m__law_fifty11 (fb1 F__law_fifty11 fun _ _ _ _ _ _ _ => rfl)
  have o_Client_session := ok_Client_session (B := B) (T := cs.map (·.2)) (cls := clsL K p0.2) f__session_15 PP_Client_session.fn
  have p_Client_session := pr_fn (B := B) (T := cs.map (·.2)) (cls := clsL K p0.2) (c := 15) (d := u_Client_session) c_Client_ rfl PP_Client_session o_Client_session (PP_Client_session.fn.binds (ps := ["self"]) fun _ _ _ _ _ _ us hl => match us, hl with | [_], _ => rfl)
  have o_Client_received := ok_Client_received (B := B) (T := cs.map (·.2)) (cls := clsL K p0.2) z_len f__outcomes_15 PP_Client_received.fn
  have p_Client_received := pr_fn (B := B) (T := cs.map (·.2)) (cls := clsL K p0.2) (c := 15) (d := u_Client_received) c_Client_ rfl PP_Client_received o_Client_received (PP_Client_received.fn.binds (ps := ["self"]) fun _ _ _ _ _ _ us hl => match us, hl with | [_], _ => rfl)
  have F_law11 : Fun B.K "law" "law" s_law11 (He.ga K "law") fd_law11 := fun_of D_law11
  have o_law11 := ok_law11 (B := B) (T := cs.map (·.2)) (cls := clsL K p0.2) F_law11 z_len p_Client_waiting p_Client_phase z_repr z_min p_Client_handed z_range h_Client_outcome p_Client_session p_Client_received n_Client_0 h__law_wrong11 h__law_units h__law_cell11 h__law_told11 h__law_synced11 h__law_outcome11 h__law_fifty11
  exact o_law11
end M
open PySem PySem.W PySem.Calls PyProof.Rows
set_option maxHeartbeats 0 in
theorem PySem.Challenge.cw_batchends_k11_commands_of_clients_holds : PySem.Challenge.rw_batchends_k11_commands_of_clients.Holds := by
  w_on; o_law
  refine HandSHeadRun.head_any (r := OpenLaw.row PySem.Challenge.rw_batchends_k11_commands_of_clients) (q := view (OpenLaw.row PySem.Challenge.rw_batchends_k11_commands_of_clients).prog [60]) (H := M.hkL) (ob := M.obL) (M := 8000) (loose := M.looseL) (d := HandSHeadRun.topDef (OpenLaw.row PySem.Challenge.rw_batchends_k11_commands_of_clients).prog 60) (kwd := []) M.obL_eq
    (by kernel_rfl) (fun s => by kernel_rfl) M.runL (by kernel_rfl) (by kernel_rfl) (by kernel_rfl) (by rfl) (by first | assumption | decide +kernel) (by decide +kernel) ⟨rfl, rfl, rfl, rfl, rfl, by decide +kernel⟩ ?hw ?hc
  case hw => w_witness2
  case hc =>
    refine M.walkG (l := PySem.Challenge.rw_batchends_k11_commands_of_clients) (n := 63) (k := 18) (x := "_law_script") rfl (by decide) (by kernel_rfl) ⟨rfl, by decide, by decide⟩ ?F
    intro w mg fa h Y G hmg0
    obtain ⟨K, cs, ls, S⟩ := Y
    have hmg : mg ("law" : PySem.Str) = some (.ref fa) := by
      have e : (HandSHeadRun.topDef (OpenLaw.row PySem.Challenge.rw_batchends_k11_commands_of_clients).prog 60).name = ("law" : PySem.Str) := by kernel_rfl
      rw [← e]
      exact hmg0
    obtain ⟨fd, hb, p0, hp0, hF⟩ := M.facts (P := (PySem.Challenge.rw_batchends_k11_commands_of_clients).prog) (by decide +kernel) (by rfl) (w := w) S G hmg
    exact ⟨K, S.kin, fd, cs ++ ls, _, fun p hp => (S.tabs p hp).2.2, fun p hp => (S.tabs p hp).1, fun p hp => (S.tabs p hp).2.1, hb, fun H a ns hl hbits hH hS => M.law_start (fun b hb2 => by
      obtain ⟨p, hp, e⟩ := List.mem_map.mp hb2
      rw [← e]
      exact hH p (List.mem_append_left _ hp)) (fun z => by
      obtain ⟨h1, q, hq, e⟩ := hp0 z
      refine ⟨h1, ?_⟩
      have := hH q (List.mem_append_right _ hq)
      rw [e] at this
      exact this) hS fun QM hQ => M.law_spec11 ns hl hbits QM hQ, hF⟩
end
