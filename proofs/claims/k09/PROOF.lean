import PyProof.Rows.All
import Wide.All
import OpenK.AllK
import Wide.FinOn
import HandS.ForMost
import HandS.ForExc
import HandS.CallSlots
import HandS.AnyAll
import HandS.Lambda
import HandS.TupLe
import HandS.TupAny
import HandS.Text
import HandS.Small
import HandS.Deep
import HandS.IsInst
import KE.DataEq
import HandS.NoneIn
import HandS.DictComp
import HandS.SortKw
import HandS.More
import HandS.StrMore
import HandS.RaiseMore
import HandS.Style
import HandS.Strs
import HandS.Codes
import PyProof.StrLawsFrom
import KE.SortKeyHeap
import HandS.Conv
import KE.KNestM
import KE.KStateDown
import HandS.EndTab
import HandS.HeadWalk
import HandS.Head0
import HandS.Head1
import HandS.Head2
import HandS.HeadEnd
import HandS.HeadHook1
import HandS.HeadHook2
import HandS.HeadHook3
import PySem.Challenge.RW_batchends_k09_bounds_of_sessions
section
set_option Elab.async false
set_option linter.all false
set_option maxRecDepth 100000
set_option maxHeartbeats 4000000
/-! M: a machine over plain data with a store of cells, and what it has to do with the layer's abstract heap. -/
namespace M
open PySem PySem.Spec PyProof.Rows L2

/-- plain data; obj k: the k-th cell of the store -/
inductive D where
  | non | bl (b : Bool) | int (i : Int) | str (s : Str) | ty (n : String) | tup (ds : List D) | lst (ds : List D) | scr (ds : List D) | obj (k : Nat)
instance : Inhabited D := ⟨.non⟩
/-- what a cell holds -/
inductive Cell where
  | lst (ds : List D) | dct (kvs : List (Key × D)) | ins (c : Nat) (fs : List (Str × D))
  -- a dict that is walked: locked as the object o
  | lck (kvs : List (Key × D)) (o : Obj) (es : List (Key × V))
abbrev Env := List (Option D)
structure Sto where
  next : Nat
  cell : Nat → Option Cell
def Sto.put (μ : Sto) (k : Nat) (c : Cell) : Sto := ⟨μ.next, fun j => if j = k then some c else μ.cell j⟩
def Sto.new (μ : Sto) (c : Cell) : Sto := ⟨μ.next + 1, fun j => if j = μ.next then some c else μ.cell j⟩
def Sto.del (μ : Sto) (k : Nat) : Sto := ⟨μ.next, fun j => if j = k then none else μ.cell j⟩
theorem Sto.put_same {μ : Sto} {k : Nat} {c : Cell} : (μ.put k c).cell k = some c := if_pos rfl
theorem Sto.put_ne {μ : Sto} {k j : Nat} {c : Cell} (h : j ≠ k) : (μ.put k c).cell j = μ.cell j := if_neg h
theorem Sto.new_same {μ : Sto} {c : Cell} : (μ.new c).cell μ.next = some c := if_pos rfl
theorem Sto.new_ne {μ : Sto} {j : Nat} {c : Cell} (h : j ≠ μ.next) : (μ.new c).cell j = μ.cell j := if_neg h
theorem Sto.del_same {μ : Sto} {k : Nat} : (μ.del k).cell k = none := if_pos rfl
theorem Sto.del_ne {μ : Sto} {k j : Nat} (h : j ≠ k) : (μ.del k).cell j = μ.cell j := if_neg h

/-- what is fixed: the written part, the code objects' tables, the classes' addresses -/
structure Wd where
  K : PySem.W.Frag
  T : List Addr
  cls : Nat → Addr

/-- all that was there is there; a code object's table may have grown -/
def Ext (G G' : Hp) : Prop := ∀ a o, G a = some o → G' a = some o ∨ ∃ ps ps' : Array Value, o = .tbl ps ∧ G' a = some (.tbl ps') ∧ (TriplesOk ps.toList → TriplesOk ps'.toList)
theorem Ext.refl (G : Hp) : Ext G G := fun _ _ h => .inl h
theorem Ext.trans {G G1 G2 : Hp} (a : Ext G G1) (b : Ext G1 G2) : Ext G G2 := fun p o h => by
  rcases a p o h with h1 | ⟨ps, ps1, e, h1, t1⟩
  · exact b p o h1
  · rcases b p _ h1 with h2 | ⟨ps2, ps3, e2, h2, t2⟩
    · exact .inr ⟨ps, ps1, e, h2, t1⟩
    · cases e2
      exact .inr ⟨ps, ps3, e, h2, fun t => t2 (t1 t)⟩
theorem Ext.of_ex {G G' : Hp} (h : ∀ a o, G a = some o → G' a = some o) : Ext G G' := fun a o e => .inl (h a o e)
theorem Ext.at {G G' : Hp} (e : Ext G G') {a : Addr} {o : HO} (h : G a = some o) (n : ∀ ps, o ≠ .tbl ps) : G' a = some o := by
  rcases e a o h with h1 | ⟨ps, _, e2, _, _⟩
  · exact h1
  · exact absurd e2 (n ps)
theorem Ext.rd {G G' : Hp} (e : Ext G G') {a : Addr} {o : HO} (h : Rd G a o) (n : ∀ ps, o ≠ .tbl ps) : Rd G' a o := by
  rcases h with h | ⟨ob, h⟩
  · exact .inl (e.at h n)
  · exact .inr ⟨ob, e.at h fun ps z => by cases z⟩
theorem Ext.sql {K : PySem.W.Frag} {G G' : Hp} (e : Ext G G') {a : Addr} {xs : List V} (h : SqL K G a xs) : SqL K G' a xs := by
  rcases h with h | h
  · exact .inl (e.rd h fun ps z => by cases z)
  · exact .inr h
theorem Ext.sqt {K : PySem.W.Frag} {G G' : Hp} (e : Ext G G') {a : Addr} {xs : List V} (h : SqT K G a xs) : SqT K G' a xs := by
  rcases h with h | h
  · exact .inl (e.rd h fun ps z => by cases z)
  · exact .inr h

/-- a view: the heap of what does not change, where the cells stand, how many there have been -/
structure Vw where
  G : Hp
  ρ : Nat → Addr
  n : Nat
def Vw.le (v v' : Vw) : Prop := Ext v.G v'.G ∧ (∀ k, k < v.n → v'.ρ k = v.ρ k) ∧ v.n ≤ v'.n
theorem Vw.le.refl (v : Vw) : v.le v := ⟨Ext.refl _, fun _ _ => rfl, Nat.le_refl _⟩
theorem Vw.le.trans {a b c : Vw} (h : a.le b) (g : b.le c) : a.le c :=
  ⟨h.1.trans g.1, fun k hk => (g.2.1 k (Nat.lt_of_lt_of_le hk h.2.2)).trans (h.2.1 k hk), Nat.le_trans h.2.2 g.2.2⟩

/-! ### a value stands for a datum -/
mutual
def Rep (K : PySem.W.Frag) (w : Vw) : D → V → Prop
  | .non, v => v = .non
  | .bl b, v => v = .bl b
  | .int i, v => v = .int i
  | .str s, v => v = .str s
  | .tup ds, v => ∃ a xs, v = .ref a ∧ SqT K w.G a xs ∧ Reps K w ds xs
  | .ty n, v => v = .ty n
  | .lst ds, v => ∃ a xs, v = .ref a ∧ w.G a = some (.lst xs) ∧ Reps K w ds xs
  | .scr ds, v => ∃ a xs, v = .ref a ∧ SqL K w.G a xs ∧ Reps K w ds xs
  | .obj k, v => k < w.n ∧ v = .ref (w.ρ k)
def Reps (K : PySem.W.Frag) (w : Vw) : List D → List V → Prop
  | [], xs => xs = []
  | d :: ds, xs => ∃ x r, xs = x :: r ∧ Rep K w d x ∧ Reps K w ds r
end
def RepP {κ : Type} (K : PySem.W.Frag) (w : Vw) : List (κ × D) → List (κ × V) → Prop
  | [], xs => xs = []
  | (k, d) :: ds, xs => ∃ x r, xs = (k, x) :: r ∧ Rep K w d x ∧ RepP K w ds r
section
variable {K : PySem.W.Frag} {w w' : Vw}
mutual
theorem Rep.mono (l : w.le w') : ∀ {d : D} {v : V}, Rep K w d v → Rep K w' d v
  | .non, _, h => h
  | .bl _, _, h => h
  | .int _, _, h => h
  | .str _, _, h => h
  | .tup _, _, ⟨a, xs, e, s, r⟩ => ⟨a, xs, e, l.1.sqt s, Reps.mono l r⟩
  | .ty _, _, h => h
  | .lst _, _, ⟨a, xs, e, s, r⟩ => ⟨a, xs, e, l.1.at s (fun _ z => by cases z), Reps.mono l r⟩
  | .scr _, _, ⟨a, xs, e, s, r⟩ => ⟨a, xs, e, l.1.sql s, Reps.mono l r⟩
  | .obj k, _, ⟨h, e⟩ => ⟨Nat.lt_of_lt_of_le h l.2.2, by rw [l.2.1 k h]; exact e⟩
theorem Reps.mono (l : w.le w') : ∀ {ds : List D} {xs : List V}, Reps K w ds xs → Reps K w' ds xs
  | [], _, h => h
  | _ :: _, _, ⟨x, r, e, h, t⟩ => ⟨x, r, e, Rep.mono l h, Reps.mono l t⟩
end
theorem RepP.mono {κ : Type} (l : w.le w') : ∀ {ds : List (κ × D)} {xs : List (κ × V)}, RepP K w ds xs → RepP K w' ds xs
  | [], _, h => h
  | (_, _) :: _, _, ⟨x, r, e, h, t⟩ => ⟨x, r, e, h.mono l, RepP.mono l t⟩
theorem Reps.length : ∀ {ds : List D} {xs : List V}, Reps K w ds xs → xs.length = ds.length
  | [], _, h => by rw [show _ = [] from h]; rfl
  | _ :: _, _, ⟨x, r, e, _, t⟩ => by rw [e, List.length_cons, List.length_cons, Reps.length t]
theorem Reps.append : ∀ {ds es : List D} {xs ys : List V}, Reps K w ds xs → Reps K w es ys → Reps K w (ds ++ es) (xs ++ ys)
  | [], _, _, _, h, g => by rw [show _ = [] from h]; exact g
  | _ :: _, _, _, _, ⟨x, r, e, h, t⟩, g => ⟨x, r ++ _, by rw [e]; rfl, h, Reps.append t g⟩
theorem Reps.take : ∀ (n : Nat) {ds : List D} {xs : List V}, Reps K w ds xs → Reps K w (ds.take n) (xs.take n)
  | 0, _, _, _ => by rw [List.take_zero, List.take_zero]; rfl
  | _ + 1, [], _, h => by rw [show _ = [] from h]; rfl
  | n + 1, _ :: _, _, ⟨x, r, e, h, t⟩ => by rw [e]; exact ⟨x, r.take n, rfl, h, Reps.take n t⟩
theorem Reps.drop : ∀ (n : Nat) {ds : List D} {xs : List V}, Reps K w ds xs → Reps K w (ds.drop n) (xs.drop n)
  | 0, _, _, h => h
  | _ + 1, [], _, h => by rw [show _ = [] from h]; rfl
  | n + 1, _ :: _, _, ⟨x, r, e, h, t⟩ => by rw [e]; exact Reps.drop n t
theorem Reps.get : ∀ {ds : List D} {xs : List V} {i : Nat} {d : D}, Reps K w ds xs → ds[i]? = some d → ∃ v, xs[i]? = some v ∧ Rep K w d v
  | [], _, _, _, _, e => by simp at e
  | _ :: _, _, 0, _, ⟨x, r, e, h, t⟩, ed => by
    have ed' := Option.some.inj ed
    subst ed'
    exact ⟨x, by rw [e]; rfl, h⟩
  | _ :: _, _, i + 1, d, ⟨x, r, e, h, t⟩, ed => by
    obtain ⟨v, ev, rv⟩ := Reps.get (i := i) t ed
    exact ⟨v, by rw [e]; exact ev, rv⟩
theorem Reps.get' {ds : List D} {xs : List V} {i : Nat} {v : V} (h : Reps K w ds xs) (e : xs[i]? = some v) : ∃ d, ds[i]? = some d ∧ Rep K w d v := by
  have hi : i < ds.length := by
    rw [← h.length]
    exact (List.getElem?_eq_some_iff.mp e).1
  obtain ⟨u, eu, ru⟩ := h.get (List.getElem?_eq_getElem hi)
  rw [e] at eu
  cases eu
  exact ⟨_, List.getElem?_eq_getElem hi, ru⟩
theorem Reps.set : ∀ (i : Nat) {ds : List D} {xs : List V} {d : D} {v : V}, Reps K w ds xs → Rep K w d v → Reps K w (ds.set i d) (xs.set i v)
  | _, [], _, _, _, h, _ => by rw [show _ = [] from h]; rfl
  | 0, _ :: _, _, _, v, ⟨x, r, e, h, t⟩, g => by rw [e]; exact ⟨v, r, rfl, g, t⟩
  | i + 1, _ :: _, _, _, _, ⟨x, r, e, h, t⟩, g => by rw [e]; exact ⟨x, _, rfl, h, Reps.set i t g⟩
theorem Reps.one {d : D} {v : V} (h : Rep K w d v) : Reps K w [d] [v] := ⟨v, [], rfl, h, rfl⟩
theorem Reps.inv1 {d : D} {xs : List V} (h : Reps K w [d] xs) : ∃ x, xs = [x] ∧ Rep K w d x := by
  obtain ⟨x, r, e, h1, h2⟩ := h
  have e2 : r = [] := h2
  subst e2
  exact ⟨x, e, h1⟩
theorem Reps.inv2 {d e : D} {xs : List V} (h : Reps K w [d, e] xs) : ∃ x y, xs = [x, y] ∧ Rep K w d x ∧ Rep K w e y := by
  obtain ⟨x, r, e, h1, h2⟩ := h
  obtain ⟨y, e2, h3⟩ := Reps.inv1 h2
  subst e2
  exact ⟨x, y, e, h1, h3⟩
end

/-- the machine's state beside the heap; pv: what a running loop keeps for itself -/
structure Ss where
  ρ : Nat → Addr
  μ : Sto
  H : Hp
  pv : Hp
/-- a cell, or kept by a loop -/
def Ss.own (S : Ss) (a : Addr) : Prop := (∃ k c, S.μ.cell k = some c ∧ S.ρ k = a) ∨ ∃ o, S.pv a = some o
/-- what is no cell -/
noncomputable def hid (S : Ss) : Hp := fun a => @ite _ (S.own a) (Classical.propDecidable _) none (S.H a)
theorem hid_some {S : Ss} {a : Addr} {o : HO} : hid S a = some o ↔ S.H a = some o ∧ ¬ S.own a := by
  unfold hid
  by_cases h : S.own a
  · rw [if_pos h]
    exact Iff.intro (fun z => by cases z) (fun z => absurd h z.2)
  · rw [if_neg h]
    exact ⟨fun z => ⟨z, h⟩, fun z => z.1⟩
theorem hid_ex {S : Ss} {a : Addr} {o : HO} (h : hid S a = some o) : S.H a = some o := (hid_some.mp h).1
theorem hid_ext {S : Ss} : Ext (hid S) S.H := Ext.of_ex fun _ _ h => hid_ex h
noncomputable def Ss.vw (S : Ss) : Vw := ⟨hid S, S.ρ, S.μ.next⟩
def Ss.le (S S' : Ss) : Prop := S.vw.le S'.vw ∧ S'.pv = S.pv
theorem Ss.le.refl (S : Ss) : S.le S := ⟨Vw.le.refl _, rfl⟩
theorem Ss.le.trans {a b c : Ss} (h : a.le b) (g : b.le c) : a.le c := ⟨h.1.trans g.1, g.2.trans h.2⟩

def CellOk (W : Wd) (w : Vw) (H : Hp) (a : Addr) : Cell → Prop
  | .lst ds => ∃ xs, H a = some (.lst xs) ∧ Reps W.K w ds xs
  | .dct kvs => ∃ es, H a = some (.dK es) ∧ RepP W.K w kvs es
  | .ins c fs => ∃ dx es, H a = some (.ins (W.cls c) dx es) ∧ RepP W.K w fs es
  | .lck kvs o es => H a = some (.frz o (.dK es)) ∧ RepP W.K w kvs es
theorem CellOk.mono {W : Wd} {w w' : Vw} {H H' : Hp} {a : Addr} {c : Cell} (h : CellOk W w H a c) (l : w.le w') (e : H' a = H a) : CellOk W w' H' a c := by
  cases c with
  | lst ds => obtain ⟨xs, e1, r⟩ := h; exact ⟨xs, e.trans e1, r.mono l⟩
  | dct kvs => obtain ⟨xs, e1, r⟩ := h; exact ⟨xs, e.trans e1, r.mono l⟩
  | ins c fs => obtain ⟨dx, xs, e1, r⟩ := h; exact ⟨dx, xs, e.trans e1, r.mono l⟩
  | lck kvs o es => obtain ⟨e1, r⟩ := h; exact ⟨e.trans e1, r.mono l⟩
theorem CellOk.some {W : Wd} {w : Vw} {H : Hp} {a : Addr} {c : Cell} (h : CellOk W w H a c) : ∃ o, H a = some o ∧ ∀ ps, o ≠ .tbl ps := by
  cases c with
  | lst ds => obtain ⟨xs, e1, r⟩ := h; exact ⟨_, e1, fun _ z => by cases z⟩
  | dct kvs => obtain ⟨xs, e1, r⟩ := h; exact ⟨_, e1, fun _ z => by cases z⟩
  | ins c fs => obtain ⟨dx, xs, e1, r⟩ := h; exact ⟨_, e1, fun _ z => by cases z⟩
  | lck kvs o es => exact ⟨_, h.1, fun _ z => by cases z⟩

/-- the name of the code object of the one lambda -/
def lamQ : Str := "put.<locals>.<lambda>"
structure Rl (W : Wd) (S : Ss) : Prop where
  inj : ∀ k j c d, S.μ.cell k = some c → S.μ.cell j = some d → S.ρ k = S.ρ j → k = j
  lt : ∀ k c, S.μ.cell k = some c → k < S.μ.next
  ok : ∀ k c, S.μ.cell k = some c → CellOk W S.vw S.H (S.ρ k) c
  tab : ∀ a ∈ W.T, GxR.TabG (hid S) a
  prv : ∀ a o, S.pv a = some o → S.H a = some o ∧ ∀ k c, S.μ.cell k = some c → S.ρ k ≠ a
  -- the table of the one def that makes a lambda
  lam : W.cls 1000 ≠ 0 → W.cls 1000 ∉ W.T ∧ LamX.TabS (hid S) (W.cls 1000) lamQ
/-- the names' data stand in the slots -/
def EnvR (W : Wd) (w : Vw) (δ : Env) (σ : L2.St) : Prop := δ.length = σ.length ∧ ∀ (i : Nat) (d : D), δ[i]? = some (some d) → ∃ v, σ[i]? = some (some v) ∧ Rep W.K w d v
theorem EnvR.mono {W : Wd} {w w' : Vw} {δ : Env} {σ : L2.St} (h : EnvR W w δ σ) (l : w.le w') : EnvR W w' δ σ :=
  ⟨h.1, fun i d e => let ⟨v, ev, r⟩ := h.2 i d e; ⟨v, ev, r.mono l⟩⟩
theorem EnvR.set {W : Wd} {w : Vw} {δ : Env} {σ : L2.St} {i : Nat} {d : D} {v : V} (h : EnvR W w δ σ) (r : Rep W.K w d v) : EnvR W w (δ.set i (some d)) (σ.set i (some v)) := by
  refine ⟨by rw [List.length_set, List.length_set, h.1], fun j e hj => ?_⟩
  by_cases hi : i = j
  · subst hi
    have hl : i < δ.length := by
      have := (List.getElem?_eq_some_iff.mp hj).1
      rw [List.length_set] at this
      exact this
    rw [List.getElem?_set_self hl] at hj
    cases hj
    exact ⟨v, List.getElem?_set_self (by rw [← h.1]; exact hl), r⟩
  · rw [List.getElem?_set_ne hi] at hj
    obtain ⟨u, eu, ru⟩ := h.2 j e hj
    exact ⟨u, by rw [List.getElem?_set_ne hi]; exact eu, ru⟩

section
variable {W : Wd} {S : Ss} {p : Addr} {o : HO}
theorem Rl.live (R : Rl W S) {k : Nat} {c : Cell} (h : S.μ.cell k = some c) : ∃ o, S.H (S.ρ k) = some o := let ⟨o, e, _⟩ := (R.ok k c h).some; ⟨o, e⟩
theorem lam_ex {W : Wd} {G G' : Hp} (h : W.cls 1000 ≠ 0 → W.cls 1000 ∉ W.T ∧ LamX.TabS G (W.cls 1000) lamQ) (e : ∀ a o, G a = some o → G' a = some o) : W.cls 1000 ≠ 0 → W.cls 1000 ∉ W.T ∧ LamX.TabS G' (W.cls 1000) lamQ := fun z => ⟨(h z).1, (h z).2.ext e⟩
theorem Rl.tabG (R : Rl W S) {a : Addr} (h : a ∈ W.T) : GxR.TabG S.H a := by
  obtain ⟨ps, e, t⟩ := R.tab a h
  exact ⟨ps, hid_ex e, t⟩
theorem tab_ext {G G' : Hp} (e : Ext G G') {a : Addr} (h : GxR.TabG G a) : GxR.TabG G' a := by
  obtain ⟨ps, h1, t⟩ := h
  rcases e a _ h1 with h2 | ⟨qs, qs', e2, h2, t2⟩
  · exact ⟨ps, h2, t⟩
  · cases e2
    exact ⟨qs', h2, t2 t⟩
theorem Rl.owned (R : Rl W S) {a : Addr} (h : S.own a) : ∃ o, S.H a = some o := by
  rcases h with ⟨k, c, h, e⟩ | ⟨o, h⟩
  · obtain ⟨o, e2⟩ := R.live h
    exact ⟨o, by rw [← e]; exact e2⟩
  · exact ⟨o, (R.prv a o h).1⟩
/-- a new thing that is no cell -/
theorem Rl.fresh (R : Rl W S) (hp : S.H p = none) : Ss.le S { S with H := upd S.H p o } ∧ Rl W { S with H := upd S.H p o } ∧ hid { S with H := upd S.H p o } p = some o := by
  have ne : ∀ {a}, S.own a → a ≠ p := fun {a} h z => by
    obtain ⟨u, e⟩ := R.owned h
    rw [z, hp] at e
    cases e
  have ex : ∀ a u, hid S a = some u → hid { S with H := upd S.H p o } a = some u := fun a u h => by
    obtain ⟨h1, h2⟩ := hid_some.mp h
    exact hid_some.mpr ⟨(upd_ne (ne_of_none h1 hp)).trans h1, h2⟩
  have l : Ss.le S { S with H := upd S.H p o } := ⟨⟨Ext.of_ex ex, fun _ _ => rfl, Nat.le_refl _⟩, rfl⟩
  exact ⟨l, ⟨R.inj, R.lt, fun k c h => (R.ok k c h).mono l.1 (upd_ne (ne (.inl ⟨k, c, h, rfl⟩))), fun a ha => tab_ext l.1.1 (R.tab a ha), fun a u h => ⟨(upd_ne (ne (.inr ⟨u, h⟩))).trans (R.prv a u h).1, (R.prv a u h).2⟩, lam_ex R.lam ex⟩,
    hid_some.mpr ⟨upd_same, fun z => ne z rfl⟩⟩
/-- the same hidden things, the rest unchanged -/
theorem hid_same {S' : Ss} (h1 : ∀ a, S'.own a ↔ S.own a) (h2 : ∀ a, ¬ S.own a → S'.H a = S.H a) : hid S' = hid S := by
  funext a
  unfold hid
  by_cases h : S.own a
  · rw [if_pos h, if_pos ((h1 a).mpr h)]
  · rw [if_neg h, if_neg (fun z => h ((h1 a).mp z))]
    exact h2 a h
/-- a cell changed -/
theorem own_put {k : Nat} {c c' : Cell} {H' : Hp} (h : S.μ.cell k = some c) (a : Addr) : Ss.own { S with μ := S.μ.put k c', H := H' } a ↔ S.own a := by
  unfold Ss.own
  constructor
  · rintro (⟨j, d, h1, h2⟩ | h1)
    · by_cases hj : j = k
      · exact .inl ⟨k, c, h, by rw [← hj]; exact h2⟩
      · exact .inl ⟨j, d, by rw [← Sto.put_ne hj]; exact h1, h2⟩
    · exact .inr h1
  · rintro (⟨j, d, h1, h2⟩ | h1)
    · by_cases hj : j = k
      · exact .inl ⟨k, c', Sto.put_same, by rw [← hj]; exact h2⟩
      · exact .inl ⟨j, d, by rw [← h1]; exact Sto.put_ne hj, h2⟩
    · exact .inr h1
theorem Rl.put {k : Nat} {c c' : Cell} (R : Rl W S) (h : S.μ.cell k = some c) (n : CellOk W S.vw (upd S.H (S.ρ k) o) (S.ρ k) c') :
    Ss.le S { S with μ := S.μ.put k c', H := upd S.H (S.ρ k) o } ∧ Rl W { S with μ := S.μ.put k c', H := upd S.H (S.ρ k) o } := by
  have eh : hid { S with μ := S.μ.put k c', H := upd S.H (S.ρ k) o } = hid S := hid_same (own_put h) fun a ha => upd_ne fun z => ha (.inl ⟨k, c, h, z.symm⟩)
  have ev : Ss.vw { S with μ := S.μ.put k c', H := upd S.H (S.ρ k) o } = S.vw := by
    unfold Ss.vw
    rw [eh]
    rfl
  refine ⟨⟨by rw [ev]; exact Vw.le.refl _, rfl⟩, ?_⟩
  have old : ∀ {j d}, (S.μ.put k c').cell j = some d → ∃ d', S.μ.cell j = some d' := fun {j d} e => by
    by_cases hj : j = k
    · exact ⟨c, by rw [hj]; exact h⟩
    · rw [Sto.put_ne hj] at e
      exact ⟨d, e⟩
  refine ⟨fun i j d e h1 h2 h3 => ?_, fun j d e => ?_, fun j d e => ?_, fun a ha => ?_, fun a u e => ⟨?_, fun j d e2 => ?_⟩, by rw [eh]; exact R.lam⟩
  · obtain ⟨d', h1'⟩ := old h1
    obtain ⟨e', h2'⟩ := old h2
    exact R.inj i j d' e' h1' h2' h3
  · obtain ⟨d', h1'⟩ := old e
    exact R.lt j d' h1'
  · rw [ev]
    by_cases hj : j = k
    · subst hj
      rw [show (S.μ.put j c').cell j = _ from Sto.put_same] at e
      cases e
      exact n
    · rw [show (S.μ.put k c').cell j = _ from Sto.put_ne hj] at e
      refine (R.ok j d e).mono (Vw.le.refl _) (upd_ne fun z => hj ?_)
      exact R.inj j k d c e h z
  · rw [eh]
    exact R.tab a ha
  · exact (upd_ne fun z => (R.prv a u e).2 k c h z.symm).trans (R.prv a u e).1
  · obtain ⟨d', e3⟩ := old e2
    exact (R.prv a u e).2 j d' e3
/-- a new cell -/
def newρ (ρ : Nat → Addr) (n : Nat) (p : Addr) : Nat → Addr := fun k => if k = n then p else ρ k
theorem newρ_same {ρ : Nat → Addr} {n : Nat} {p : Addr} : newρ ρ n p n = p := if_pos rfl
theorem newρ_ne {ρ : Nat → Addr} {n j : Nat} {p : Addr} (h : j ≠ n) : newρ ρ n p j = ρ j := if_neg h
theorem Rl.new {c : Cell} {H' : Hp} (R : Rl W S) (hp : S.H p = none) (hH : ∀ a, a ≠ p → S.H a ≠ none → H' a = S.H a) (hx : ∀ a o, hid S a = some o → H' a = some o) (n : CellOk W ⟨hid S, newρ S.ρ S.μ.next p, S.μ.next + 1⟩ H' p c) :
    Ss.le S { S with ρ := newρ S.ρ S.μ.next p, μ := S.μ.new c, H := H' } ∧ Rl W { S with ρ := newρ S.ρ S.μ.next p, μ := S.μ.new c, H := H' } := by
  have lt : ∀ {j d}, S.μ.cell j = some d → j ≠ S.μ.next := fun {j d} e => Nat.ne_of_lt (R.lt j d e)
  have nep : ∀ {a}, S.own a → a ≠ p := fun {a} h z => by
    obtain ⟨u, e2⟩ := R.owned h
    rw [z, hp] at e2
    cases e2
  have cs : ∀ {j d}, (S.μ.new c).cell j = some d → (j = S.μ.next ∧ d = c) ∨ (j ≠ S.μ.next ∧ S.μ.cell j = some d) := fun {j d} e => by
    by_cases hj : j = S.μ.next
    · subst hj
      rw [Sto.new_same] at e
      cases e
      exact .inl ⟨rfl, rfl⟩
    · rw [Sto.new_ne hj] at e
      exact .inr ⟨hj, e⟩
  have ex : ∀ a u, hid S a = some u → hid { S with ρ := newρ S.ρ S.μ.next p, μ := S.μ.new c, H := H' } a = some u := fun a u h => by
    refine hid_some.mpr ⟨hx a u h, ?_⟩
    rintro (⟨j, d, h1, h2⟩ | h1)
    · rcases cs h1 with ⟨e1, _⟩ | ⟨n1, e1⟩
      · have h2 : newρ S.ρ S.μ.next p j = a := h2
        rw [e1, newρ_same] at h2
        have := hid_ex h
        rw [← h2, hp] at this
        cases this
      · have h2 : newρ S.ρ S.μ.next p j = a := h2
        rw [newρ_ne n1] at h2
        exact (hid_some.mp h).2 (.inl ⟨j, d, e1, h2⟩)
    · exact (hid_some.mp h).2 (.inr h1)
  have l : Ss.le S { S with ρ := newρ S.ρ S.μ.next p, μ := S.μ.new c, H := H' } := ⟨⟨Ext.of_ex ex, fun k hk => newρ_ne (Nat.ne_of_lt hk), Nat.le_succ _⟩, rfl⟩
  have lv : Vw.le ⟨hid S, newρ S.ρ S.μ.next p, S.μ.next + 1⟩ (Ss.vw { S with ρ := newρ S.ρ S.μ.next p, μ := S.μ.new c, H := H' }) := ⟨l.1.1, fun _ _ => rfl, Nat.le_refl _⟩
  refine ⟨l, fun i j d e h1 h2 h3 => ?_, fun j d e => ?_, fun j d e => ?_, fun a ha => tab_ext l.1.1 (R.tab a ha), fun a u e => ⟨?_, fun j d e2 => ?_⟩, lam_ex R.lam ex⟩
  · have h3 : newρ S.ρ S.μ.next p i = newρ S.ρ S.μ.next p j := h3
    rcases cs h1 with ⟨e1, _⟩ | ⟨n1, e1⟩ <;> rcases cs h2 with ⟨e2, _⟩ | ⟨n2, e2⟩
    · rw [e1, e2]
    · rw [e1, newρ_same, newρ_ne n2] at h3
      exact absurd h3.symm (nep (.inl ⟨j, e, e2, rfl⟩))
    · rw [e2, newρ_same, newρ_ne n1] at h3
      exact absurd h3 (nep (.inl ⟨i, d, e1, rfl⟩))
    · rw [newρ_ne n1, newρ_ne n2] at h3
      exact R.inj i j d e e1 e2 h3
  · rcases cs e with ⟨e1, _⟩ | ⟨n1, e1⟩
    · rw [e1]
      exact Nat.lt_succ_self _
    · exact Nat.lt_succ_of_lt (R.lt j d e1)
  · rcases cs e with ⟨e1, e2⟩ | ⟨n1, e1⟩
    · subst e1 e2
      show CellOk W _ _ (newρ S.ρ S.μ.next p S.μ.next) d
      rw [newρ_same]
      exact n.mono lv rfl
    · show CellOk W _ _ (newρ S.ρ S.μ.next p j) d
      rw [newρ_ne n1]
      obtain ⟨u, eu⟩ := R.live e1
      exact (R.ok j d e1).mono l.1 (hH _ (nep (.inl ⟨j, d, e1, rfl⟩)) (by rw [eu]; exact fun z => by cases z))
  · obtain ⟨h1, h2⟩ := R.prv a u e
    exact (hH a (nep (.inr ⟨u, e⟩)) (by rw [h1]; exact fun z => by cases z)).trans h1
  · rcases cs e2 with ⟨e1, _⟩ | ⟨n1, e1⟩
    · show newρ S.ρ S.μ.next p j ≠ a
      rw [e1, newρ_same]
      exact fun z => nep (.inr ⟨u, e⟩) z.symm
    · show newρ S.ρ S.μ.next p j ≠ a
      rw [newρ_ne n1]
      exact (R.prv a u e).2 j d e1
/-- a cell given up: what it holds stands for ever (or is forgotten) -/
theorem Rl.del {k : Nat} (R : Rl W S) : Ss.le S { S with μ := S.μ.del k } ∧ Rl W { S with μ := S.μ.del k } := by
  have old : ∀ {j d}, (S.μ.del k).cell j = some d → S.μ.cell j = some d ∧ j ≠ k := fun {j d} e => by
    by_cases hj : j = k
    · subst hj
      rw [Sto.del_same] at e
      cases e
    · rw [Sto.del_ne hj] at e
      exact ⟨e, hj⟩
  have ex : ∀ a u, hid S a = some u → hid { S with μ := S.μ.del k } a = some u := fun a u h => by
    obtain ⟨h1, h2⟩ := hid_some.mp h
    refine hid_some.mpr ⟨h1, ?_⟩
    rintro (⟨j, d, e, h3⟩ | h3)
    · exact h2 (.inl ⟨j, d, (old e).1, h3⟩)
    · exact h2 (.inr h3)
  have l : Ss.le S { S with μ := S.μ.del k } := ⟨⟨Ext.of_ex ex, fun _ _ => rfl, Nat.le_refl _⟩, rfl⟩
  exact ⟨l, fun i j d e h1 h2 h3 => R.inj i j d e (old h1).1 (old h2).1 h3, fun j d e => R.lt j d (old e).1, fun j d e => (R.ok j d (old e).1).mono l.1 rfl, fun a ha => tab_ext l.1.1 (R.tab a ha), fun a u e => ⟨(R.prv a u e).1, fun j d e2 => (R.prv a u e).2 j d (old e2).1⟩, lam_ex R.lam ex⟩
/-- μ' : some of μ's cells, as they are -/
def Sto.sub (μ' μ : Sto) : Prop := μ'.next = μ.next ∧ ∀ k c, μ'.cell k = some c → μ.cell k = some c
theorem Rl.sub {μ' : Sto} (R : Rl W S) (h : μ'.sub S.μ) : Ss.le S { S with μ := μ' } ∧ Rl W { S with μ := μ' } := by
  have ex : ∀ a u, hid S a = some u → hid { S with μ := μ' } a = some u := fun a u e => by
    obtain ⟨h1, h2⟩ := hid_some.mp e
    refine hid_some.mpr ⟨h1, ?_⟩
    rintro (⟨j, d, e, h3⟩ | h3)
    · exact h2 (.inl ⟨j, d, h.2 j d e, h3⟩)
    · exact h2 (.inr h3)
  have l : Ss.le S { S with μ := μ' } := ⟨⟨Ext.of_ex ex, fun _ _ => rfl, Nat.le_of_eq h.1.symm⟩, rfl⟩
  exact ⟨l, fun i j d e h1 h2 h3 => R.inj i j d e (h.2 _ _ h1) (h.2 _ _ h2) h3, fun j d e => by show j < μ'.next; rw [h.1]; exact R.lt j d (h.2 _ _ e), fun j d e => (R.ok j d (h.2 _ _ e)).mono l.1 rfl, fun a ha => tab_ext l.1.1 (R.tab a ha), fun a u e => ⟨(R.prv a u e).1, fun j d e2 => (R.prv a u e).2 j d (h.2 _ _ e2)⟩, lam_ex R.lam ex⟩
/-- what a loop keeps for itself: laid, written, given out -/
theorem own_pv {a : Addr} {u : HO} {H' : Hp} (b : Addr) : Ss.own { S with H := H', pv := upd S.pv a u } b ↔ (S.own b ∨ b = a) := by
  unfold Ss.own
  constructor
  · rintro (h | ⟨v, h⟩)
    · exact .inl (.inl h)
    · by_cases hb : b = a
      · exact .inr hb
      · have h : upd S.pv a u b = some v := h
        rw [upd_ne hb] at h
        exact .inl (.inr ⟨v, h⟩)
  · rintro ((h | ⟨v, h⟩) | h)
    · exact .inl h
    · by_cases hb : b = a
      · exact .inr ⟨u, by show upd S.pv a u b = _; rw [hb]; exact upd_same⟩
      · exact .inr ⟨v, by show upd S.pv a u b = _; rw [upd_ne hb]; exact h⟩
    · exact .inr ⟨u, by show upd S.pv a u b = _; rw [h]; exact upd_same⟩
theorem Rl.keep (R : Rl W S) (hp : S.H p = none) : S.vw.le (Ss.vw { S with H := upd S.H p o, pv := upd S.pv p o }) ∧ Rl W { S with H := upd S.H p o, pv := upd S.pv p o } := by
  have nep : ∀ {a}, S.own a → a ≠ p := fun {a} h z => by
    obtain ⟨u, e2⟩ := R.owned h
    rw [z, hp] at e2
    cases e2
  have ex : ∀ a u, hid S a = some u → hid { S with H := upd S.H p o, pv := upd S.pv p o } a = some u := fun a u h => by
    obtain ⟨h1, h2⟩ := hid_some.mp h
    have ha : a ≠ p := ne_of_none h1 hp
    refine hid_some.mpr ⟨(upd_ne ha).trans h1, fun z => ?_⟩
    rcases (own_pv a).mp z with z | z
    · exact h2 z
    · exact ha z
  have l : S.vw.le (Ss.vw { S with H := upd S.H p o, pv := upd S.pv p o }) := ⟨Ext.of_ex ex, fun _ _ => rfl, Nat.le_refl _⟩
  refine ⟨l, R.inj, R.lt, fun k c h => (R.ok k c h).mono l (upd_ne (nep (.inl ⟨k, c, h, rfl⟩))), fun a ha => tab_ext l.1 (R.tab a ha), fun a u e => ?_, lam_ex R.lam ex⟩
  have e : upd S.pv p o a = some u := e
  by_cases ha : a = p
  · subst ha
    rw [upd_same] at e
    cases e
    exact ⟨upd_same, fun k c h => nep (.inl ⟨k, c, h, rfl⟩)⟩
  · rw [upd_ne ha] at e
    exact ⟨(upd_ne ha).trans (R.prv a u e).1, (R.prv a u e).2⟩
theorem Rl.rekeep {u : HO} (R : Rl W S) (hp : S.pv p = some u) : S.vw.le (Ss.vw { S with H := upd S.H p o, pv := upd S.pv p o }) ∧ Rl W { S with H := upd S.H p o, pv := upd S.pv p o } := by
  have eh : hid { S with H := upd S.H p o, pv := upd S.pv p o } = hid S := hid_same (fun a => by
    rw [own_pv a]
    exact ⟨fun z => z.elim id fun e => .inr ⟨u, by rw [e]; exact hp⟩, .inl⟩) fun a ha => upd_ne fun z => ha (.inr ⟨u, by rw [z]; exact hp⟩)
  have l : S.vw.le (Ss.vw { S with H := upd S.H p o, pv := upd S.pv p o }) := by
    unfold Ss.vw
    rw [eh]
    exact Vw.le.refl _
  refine ⟨l, R.inj, R.lt, fun k c h => (R.ok k c h).mono l (upd_ne ((R.prv p u hp).2 k c h)), fun a ha => by rw [eh]; exact R.tab a ha, fun a v e => ?_, by rw [eh]; exact R.lam⟩
  have e : upd S.pv p o a = some v := e
  by_cases ha : a = p
  · subst ha
    rw [upd_same] at e
    cases e
    exact ⟨upd_same, (R.prv a u hp).2⟩
  · rw [upd_ne ha] at e
    exact ⟨(upd_ne ha).trans (R.prv a v e).1, (R.prv a v e).2⟩
/-- pv as it was before -/
theorem Rl.give {pv' : Hp} (R : Rl W S) (h : ∀ a o, pv' a = some o → S.pv a = some o) : S.vw.le (Ss.vw { S with pv := pv' }) ∧ Rl W { S with pv := pv' } := by
  have no : ∀ a, Ss.own { S with pv := pv' } a → S.own a := by
    rintro a (z | ⟨o, z⟩)
    · exact .inl z
    · exact .inr ⟨o, h a o z⟩
  have ex : ∀ a u, hid S a = some u → hid { S with pv := pv' } a = some u := fun a u e => by
    obtain ⟨h1, h2⟩ := hid_some.mp e
    exact hid_some.mpr ⟨h1, fun z => h2 (no a z)⟩
  have l : S.vw.le (Ss.vw { S with pv := pv' }) := ⟨Ext.of_ex ex, fun _ _ => rfl, Nat.le_refl _⟩
  exact ⟨l, R.inj, R.lt, fun k c e => (R.ok k c e).mono l rfl, fun a ha => tab_ext l.1 (R.tab a ha), fun a u e => R.prv a u (h a u e), lam_ex R.lam ex⟩
end
end M
end

section
set_option Elab.async false
set_option linter.all false
set_option maxRecDepth 100000
set_option maxHeartbeats 4000000
/-! M: tuples compared: only the first unlike place is asked for its order. -/
namespace M.Tp
open PySem PySem.SeqAt
open PySem.AutoSeq1 (wpAny_loadPart')
open PySem.MeetsSeq PySem.MeetsSeq2 PySem.MeetsSeq3
open Ob (RcOp lexAt lexAt_zero lexAt_succ)
/-- the places before j are alike -/
def Pre (e : Nat → Bool) (j : Nat) : Prop := ∀ m, m < j → e m = true
theorem Pre.succ {e : Nat → Bool} {j : Nat} (h : Pre e j) (he : e j = true) : Pre e (j + 1) := fun m hm => by
  rcases Nat.lt_succ_iff_lt_or_eq.mp hm with q | q
  · exact h m q
  · rw [q]; exact he

theorem lt_meets (p q : Addr) (xs ys : Array Value) (c c2 : Nat) (dx dy : Option Addr) (sx sy : Array (Option Value)) (e r : Nat → Bool) :
    Meets (Builtin.«tuple.__lt__» ⟨[.ref p, .ref q], []⟩)
      (fun A R s => s.heap.get? p = some { cls := .type "tuple", dict := dx, data := .seq xs c, slots := sx } ∧ s.heap.get? q = some { cls := .type "tuple", dict := dy, data := .seq ys c2, slots := sy } ∧
        (∀ j (a1 : j < xs.size) (a2 : j < ys.size), Pre e j → EqAt A.in1 s xs[j] ys[j] (e j)) ∧ (∀ j (a1 : j < xs.size) (a2 : j < ys.size), Pre e j → e j = false → RcOp .Lt A.in1 s xs[j] ys[j] (r j)) ∧
        R (.ok (.ret (.bool (lexAt e r (decide (xs.size < ys.size)) 0 (min xs.size ys.size))))) s) :=
  .of_wp fun prog w A R s0 hyp => by
    obtain ⟨hp, gs, dr, tk, os⟩ := s0; obtain ⟨gp, gq, eqs, ords, fin0⟩ := hyp
    have sub2 := AutoSeq1.sub_tuple_tuple
    have lz : (xs.toList.zip ys.toList).length = min xs.size ys.size := by simp
    wp_walk using wpAny_loadPart' gp, wpAny_loadPart' gq, wpAny_forIn_list _ (fun left acc s1 => acc.1 = none ∧ s1 = ⟨hp, gs, dr, tk, os⟩ ∧ ∃ i, left = (xs.toList.zip ys.toList).drop i ∧ Pre e i ∧
      R (.ok (.ret (.bool (lexAt e r (decide (xs.size < ys.size)) i (min xs.size ys.size - i))))) ⟨hp, gs, dr, tk, os⟩) _
    case turn =>
      rintro ⟨u, v⟩ left acc s1 ⟨ha, rfl, i, hd, hpre, hfin⟩
      have il : i < (xs.toList.zip ys.toList).length := by
        rcases Nat.lt_or_ge i (xs.toList.zip ys.toList).length with g | g
        · exact g
        · rw [List.drop_of_length_le g] at hd; cases hd
      have im : i < min xs.size ys.size := lz ▸ il
      have ix : i < xs.size := Nat.lt_of_lt_of_le im (Nat.min_le_left _ _)
      have iy : i < ys.size := Nat.lt_of_lt_of_le im (Nat.min_le_right _ _)
      rw [List.drop_eq_getElem_cons il] at hd
      injection hd with huv hleft
      have eu : u = xs[i] := by have := congrArg Prod.fst huv; simpa using this
      have ev : v = ys[i] := by have := congrArg Prod.snd huv; simpa using this
      subst eu ev
      rw [show min xs.size ys.size - i = (min xs.size ys.size - (i + 1)) + 1 by omega, lexAt_succ] at hfin
      refine wpAny_bind (eqs i ix iy hpre prog w _ _ ?_)
      cases hc : e i with
      | true =>
        rw [hc, if_pos rfl] at hfin
        wp_walk
        exact ⟨rfl, rfl, i + 1, hleft, hpre.succ hc, hfin⟩
      | false =>
        rw [hc, if_neg Bool.false_ne_true] at hfin
        have ho := ords i ix iy hpre hc prog w
        wp_walk using ho
        exact ⟨_, rfl, by simpa using hfin⟩
    case fin =>
      rintro ⟨acc1, acc2⟩ s1 ⟨ha, rfl, i, hd, hpre, hfin⟩
      simp only at ha
      subst ha
      have ige : min xs.size ys.size ≤ i := by
        rcases Nat.lt_or_ge i (xs.toList.zip ys.toList).length with g | g
        · rw [List.drop_eq_getElem_cons g] at hd; cases hd
        · exact lz ▸ g
      rw [Nat.sub_eq_zero_of_le ige, lexAt_zero] at hfin
      wp_walk
      exact ⟨_, rfl, by simpa [Builtin.Tuple.tupleCompareSizes] using hfin⟩
    case h =>
      exact ⟨rfl, rfl, 0, rfl, fun m hm => absurd hm (Nat.not_lt_zero m), by simpa using fin0⟩
theorem tup_lt {A : Around} {s : Shared} {p q : Addr} {xs ys : Array Value} {e r : Nat → Bool} (hx : s.heap.IsTuple p xs) (hy : s.heap.IsTuple q ys) (hu : A.units < cLine)
    (eqs : ∀ j (a1 : j < xs.size) (a2 : j < ys.size), Pre e j → EqAt A.in1 s xs[j] ys[j] (e j)) (ords : ∀ j (a1 : j < xs.size) (a2 : j < ys.size), Pre e j → e j = false → RcOp .Lt A.in1 s xs[j] ys[j] (r j)) :
    RcOp .Lt A s (.ref p) (.ref q) (lexAt e r (decide (xs.size < ys.size)) 0 (min xs.size ys.size)) := fun prog w E Q hQ => by
  obtain ⟨⟨cx, dx, tx, sx⟩, gx, kx, nx, vx⟩ := id hx
  obtain ⟨⟨cy, dy, ty, sy⟩, gy, ky, ny, vy⟩ := id hy
  simp only at kx vx ky vy
  subst kx vx ky vy
  exact richCompare_meets_room (op := .Lt) ⟨_, gx, rfl⟩ ⟨_, gy, rfl⟩ F.slot_tuple_lt F.entry_tuple_lt (F.args_tuple_lt_2 _ _) (lt_meets p q xs ys nx ny dx dy sx sy e r) ⟨gx, gy, eqs, ords, ⟨(fun x => nomatch x), hQ⟩⟩ hu

theorem le_meets (p q : Addr) (xs ys : Array Value) (c c2 : Nat) (dx dy : Option Addr) (sx sy : Array (Option Value)) (e r : Nat → Bool) :
    Meets (Builtin.«tuple.__le__» ⟨[.ref p, .ref q], []⟩)
      (fun A R s => s.heap.get? p = some { cls := .type "tuple", dict := dx, data := .seq xs c, slots := sx } ∧ s.heap.get? q = some { cls := .type "tuple", dict := dy, data := .seq ys c2, slots := sy } ∧
        (∀ j (a1 : j < xs.size) (a2 : j < ys.size), Pre e j → EqAt A.in1 s xs[j] ys[j] (e j)) ∧ (∀ j (a1 : j < xs.size) (a2 : j < ys.size), Pre e j → e j = false → RcOp .LtE A.in1 s xs[j] ys[j] (r j)) ∧
        R (.ok (.ret (.bool (lexAt e r (decide (xs.size ≤ ys.size)) 0 (min xs.size ys.size))))) s) :=
  .of_wp fun prog w A R s0 hyp => by
    obtain ⟨hp, gs, dr, tk, os⟩ := s0; obtain ⟨gp, gq, eqs, ords, fin0⟩ := hyp
    have sub2 := AutoSeq1.sub_tuple_tuple
    have lz : (xs.toList.zip ys.toList).length = min xs.size ys.size := by simp
    wp_walk using wpAny_loadPart' gp, wpAny_loadPart' gq, wpAny_forIn_list _ (fun left acc s1 => acc.1 = none ∧ s1 = ⟨hp, gs, dr, tk, os⟩ ∧ ∃ i, left = (xs.toList.zip ys.toList).drop i ∧ Pre e i ∧
      R (.ok (.ret (.bool (lexAt e r (decide (xs.size ≤ ys.size)) i (min xs.size ys.size - i))))) ⟨hp, gs, dr, tk, os⟩) _
    case turn =>
      rintro ⟨u, v⟩ left acc s1 ⟨ha, rfl, i, hd, hpre, hfin⟩
      have il : i < (xs.toList.zip ys.toList).length := by
        rcases Nat.lt_or_ge i (xs.toList.zip ys.toList).length with g | g
        · exact g
        · rw [List.drop_of_length_le g] at hd; cases hd
      have im : i < min xs.size ys.size := lz ▸ il
      have ix : i < xs.size := Nat.lt_of_lt_of_le im (Nat.min_le_left _ _)
      have iy : i < ys.size := Nat.lt_of_lt_of_le im (Nat.min_le_right _ _)
      rw [List.drop_eq_getElem_cons il] at hd
      injection hd with huv hleft
      have eu : u = xs[i] := by have := congrArg Prod.fst huv; simpa using this
      have ev : v = ys[i] := by have := congrArg Prod.snd huv; simpa using this
      subst eu ev
      rw [show min xs.size ys.size - i = (min xs.size ys.size - (i + 1)) + 1 by omega, lexAt_succ] at hfin
      refine wpAny_bind (eqs i ix iy hpre prog w _ _ ?_)
      cases hc : e i with
      | true =>
        rw [hc, if_pos rfl] at hfin
        wp_walk
        exact ⟨rfl, rfl, i + 1, hleft, hpre.succ hc, hfin⟩
      | false =>
        rw [hc, if_neg Bool.false_ne_true] at hfin
        have ho := ords i ix iy hpre hc prog w
        wp_walk using ho
        exact ⟨_, rfl, by simpa using hfin⟩
    case fin =>
      rintro ⟨acc1, acc2⟩ s1 ⟨ha, rfl, i, hd, hpre, hfin⟩
      simp only at ha
      subst ha
      have ige : min xs.size ys.size ≤ i := by
        rcases Nat.lt_or_ge i (xs.toList.zip ys.toList).length with g | g
        · rw [List.drop_eq_getElem_cons g] at hd; cases hd
        · exact lz ▸ g
      rw [Nat.sub_eq_zero_of_le ige, lexAt_zero] at hfin
      wp_walk
      exact ⟨_, rfl, by simpa [Builtin.Tuple.tupleCompareSizes] using hfin⟩
    case h =>
      exact ⟨rfl, rfl, 0, rfl, fun m hm => absurd hm (Nat.not_lt_zero m), by simpa using fin0⟩
theorem tup_le {A : Around} {s : Shared} {p q : Addr} {xs ys : Array Value} {e r : Nat → Bool} (hx : s.heap.IsTuple p xs) (hy : s.heap.IsTuple q ys) (hu : A.units < cLine)
    (eqs : ∀ j (a1 : j < xs.size) (a2 : j < ys.size), Pre e j → EqAt A.in1 s xs[j] ys[j] (e j)) (ords : ∀ j (a1 : j < xs.size) (a2 : j < ys.size), Pre e j → e j = false → RcOp .LtE A.in1 s xs[j] ys[j] (r j)) :
    RcOp .LtE A s (.ref p) (.ref q) (lexAt e r (decide (xs.size ≤ ys.size)) 0 (min xs.size ys.size)) := fun prog w E Q hQ => by
  obtain ⟨⟨cx, dx, tx, sx⟩, gx, kx, nx, vx⟩ := id hx
  obtain ⟨⟨cy, dy, ty, sy⟩, gy, ky, ny, vy⟩ := id hy
  simp only at kx vx ky vy
  subst kx vx ky vy
  exact richCompare_meets_room (op := .LtE) ⟨_, gx, rfl⟩ ⟨_, gy, rfl⟩ F.slot_tuple_le F.entry_tuple_le (F.args_tuple_le_2 _ _) (le_meets p q xs ys nx ny dx dy sx sy e r) ⟨gx, gy, eqs, ords, ⟨(fun x => nomatch x), hQ⟩⟩ hu

theorem lt_text {A : Around} {s : Shared} (a b : Str) (t u : Tok) : RcOp .Lt A s (.str a t) (.str b u) (decide (a.cps.toList < b.cps.toList)) := fun _ _ _ _ h => PyProof.Rows.lt_str h
theorem le_text {A : Around} {s : Shared} (a b : Str) (t u : Tok) : RcOp .LtE A s (.str a t) (.str b u) (!decide (b.cps.toList < a.cps.toList)) := fun _ _ _ _ h => PySem.P.le_str h
end M.Tp
end

section
set_option Elab.async false
set_option linter.all false
set_option maxRecDepth 100000
set_option maxHeartbeats 4000000
/-! M: the terms of the machine and what they want. -/
namespace M
open PySem PySem.Spec PyProof.Rows L2

abbrev Post := D → Sto → Prop
abbrev XPost := Nat → Sto → Prop
abbrev Spec := List D → Sto → Post → XPost → Prop
structure Outs where
  nx : Env → Sto → Prop
  rt : Post
  bk : Env → Sto → Prop
  ct : Env → Sto → Prop
  xc : Nat → Env → Sto → Prop
abbrev IPost := List D → (Sto → Prop) → Sto → Prop
/-- how a piece of syntax falls apart -/
abbrev XF := List Str → Scope → Bool → Expr → Option (List Expr)
abbrev SF := List Str → Scope → Stmt → Option (List Expr)
abbrev EvE := Env → List D → Sto → Post → XPost → Prop
abbrev EvT := Env → List D → Sto → (Bool → Sto → Prop) → XPost → Prop
abbrev EvI := Env → List D → Sto → IPost → XPost → Prop
abbrev EvS := Env → List D → Sto → Outs → Prop

inductive IR where
  | nop
  | var (i : Nat) | con (d : D) | glb (x : Str) (d : D) | bty (n : String)
  | bin (o : Operator) (a b : IR) | neg (a : IR)
  | cmp (o : CmpOp) (a b : IR) | chn (o o' : CmpOp) (a b c : IR)
  | one (a : IR) | andV (a r : IR) | orV (a r : IR) | notV (a : IR) | ife (t a b : IR)
  | ix (a i : IR) | sl (a lo hi : IR)
  | tupC (as : IR) | lstC (as : IR) | lstM (as : IR)
  | nil | cons (a r : IR)
  | cal (x : Str) (sp : Spec) (as : IR)
  | bme (T id : String) (m : Str) (sp : Spec) (o as : IR)
  -- a method of an own class: what it does, by the receiver's class
  | mcl (m : Str) (tbl : List (Nat × Spec)) (o as : IR)
  -- while the dict in slot i is locked
  | lkE (i : Nat) (e : IR) | lkS (i : Nat) (s : IR)
  -- the items of a locked dict, enumerate of a list
  | itm (a : IR) | ien (a : IR)
  | cpr (own : List (Str × Nat)) (g it t e : IR)
  | dcp (own : List (Str × Nat)) (g it ke ve : IR)
  | frz (a : IR)
  -- any other expression: how it falls apart, what it does with its parts' data
  | nod (f : XF) (ev : EvE) (as : IR)
  -- tests
  | tV (a : IR) | tNot (t : IR) | tOne (t : IR) | tAnd (t r : IR) | tOr (t r : IR) | tnd (f : XF) (ev : EvT) (as : IR)
  -- what is walked
  | ind (f : XF) (ev : EvI) (as : IR) | itV (a : IR) | itR1 (a : IR) | itR2 (a b : IR)
  -- targets
  | gN (i : Nat) | gT (n : Nat) (gs : IR) | gSub (o i : IR)
  -- statements
  | asg (g e : IR) | asc (i : Nat) (e : IR) | exp (e : IR) | ret (e : IR) | ret0 | ifS (t a b : IR) | whl (t b : IR) | fr (g it b : IR) | brk | cnt | pas
  | sno (f : SF) (ev : EvS) (as : IR) | nev | seq (s r : IR)

/-- the items of a list, as data or as a cell -/
def asL (d : D) (μ : Sto) : Option (List D) := match d with
  | .lst ds => some ds
  | .scr ds => some ds
  | .obj k => match μ.cell k with
    | some (.lst ds) => some ds
    | _ => none
  | _ => none
/-- .. that is no locked one -/
def asLM (d : D) (μ : Sto) : Option (List D) := match d with
  | .lst ds => some ds
  | .obj k => match μ.cell k with
    | some (.lst ds) => some ds
    | _ => none
  | _ => none
def asSeq (d : D) (μ : Sto) : Option (List D) := match d with
  | .tup ds => some ds
  | d => asL d μ
def asK (d : D) (μ : Sto) : Option (List (Key × D)) := match d with
  | .obj k => match μ.cell k with
    | some (.dct ds) => some ds
    | some (.lck ds _ _) => some ds
    | _ => none
  | _ => none
/-- the instance that a datum is -/
def insD (d : D) (μ : Sto) : Option (Nat × Nat × List (Str × D)) := match d with
  | .obj k => match μ.cell k with
    | some (.ins c fs) => some (k, c, fs)
    | _ => none
  | _ => none
/-- the promise of a class's method, where the receiver is an instance of a class of the list -/
def metOf (m : Str) (tbl : List (Nat × Spec)) (d : D) (μ : Sto) : Option Spec := match insD d μ with
  | some (_, c, fs) => match fs.lookup m with
    | none => tbl.lookup c
    | some _ => none
  | none => none
/-- .. that is not locked -/
def asKM (d : D) (μ : Sto) : Option (List (Key × D)) := match d with
  | .obj k => match μ.cell k with
    | some (.dct ds) => some ds
    | _ => none
  | _ => none
mutual
/-- without cells, as the library's data -/
def pyOf : D → PyData
  | .non => .none
  | .bl b => .bool b
  | .int i => .int i
  | .str s => .str s
  | .tup ds => .tuple (pyOfs ds)
  | .lst ds => .list (pyOfs ds)
  | .ty _ => .none
  | .scr _ => .none
  | .obj _ => .none
def pyOfs : List D → List PyData
  | [] => []
  | d :: ds => pyOf d :: pyOfs ds
end
mutual
def pureD : D → Bool
  | .tup ds => pureDs ds
  | .lst ds => pureDs ds
  | .obj _ => false
  | .ty _ => false
  | .scr _ => false
  | _ => true
def pureDs : List D → Bool
  | [] => true
  | d :: ds => pureD d && pureDs ds
end
/-- a list cell at the top read as the list that it is -/
def drf (d : D) (μ : Sto) : D := match asLM d μ with
  | some ds => .lst ds
  | none => d
/-- data that == looks at: no cell within, not too deep -/
def eqN : Nat → D → Bool
  | _, .non | _, .bl _ | _, .int _ | _, .str _ => true
  | n + 1, .tup ds => ds.all (eqN n)
  | n + 1, .lst ds => ds.all (eqN n)
  | _, _ => false
def eqOk (d : D) : Bool := eqN 12 d
def deq (x y : D) : Bool := PyData.eqv (pyOf x) (pyOf y)
def flatD : D → Bool
  | .non | .bl _ | .int _ | .str _ => true
  | _ => false
def strIn (i j : Str) : Bool := match i.cps.toList with
  | [c] => decide (c ∈ j.cps.toList)
  | _ => !(Builtin.Str.occurrences j i 0 j.length 1).isEmpty
def keyOf : D → Option Key
  | .int i => some (.inl i)
  | .str s => some (.inr s)
  | _ => none

def valD (kvs : List (Key × D)) (k : Key) : Option D := (kvs.find? fun kv => decide (kv.1 = k)).map (·.2)
def putD (kvs : List (Key × D)) (k : Key) (v : D) : List (Key × D) :=
  if (kvs.any fun kv => decide (kv.1 = k)) = true then kvs.map (fun kv => if kv.1 = k then (kv.1, v) else kv) else kvs ++ [(k, v)]
def dropD (kvs : List (Key × D)) (k : Key) : List (Key × D) := kvs.filter fun kv => decide (kv.1 ≠ k)
/-- the order of flat data -/
def ltF : D → D → Option Bool
  | .int i, .int j => some (decide (i < j))
  | .str a, .str b => some (decide (a.cps.toList < b.cps.toList))
  | _, _ => none
def leF : D → D → Option Bool
  | .int i, .int j => some (decide (i ≤ j))
  | .str a, .str b => some (!decide (b.cps.toList < a.cps.toList))
  | _, _ => none
/-- tuples of flat data, of one length -/
def tupO (f : D → D → Option Bool) (z : Bool) : List D → List D → Option Bool
  | [], [] => some z
  | x :: xs, y :: ys => if flatD x = true ∧ flatD y = true then (if deq x y = true then tupO f z xs ys else f x y) else none
  | _, _ => none
def repS (s : Str) (n : Nat) : Str := ⟨(List.replicate n s.cps).foldl (· ++ ·) #[]⟩
def binD (o : Operator) (x y : D) (μ : Sto) (Q : Post) : Prop := match o, x, y with
  | .Add, .int i, .int j => Q (.int (i + j)) μ
  | .Sub, .int i, .int j => Q (.int (i - j)) μ
  | .Mult, .int i, .int j => CMul i j ∧ Q (.int (i * j)) μ
  | .Mult, .str s, .int n => (0 ≤ n ∧ n < 2 ^ 31 ∧ s.length * n.toNat ≤ sizeLine) ∧ Q (.str (repS s n.toNat)) μ
  | .FloorDiv, .int i, .int j => CDivN i j ∧ Q (.int (i.fdiv j)) μ
  | .Mod, .int i, .int j => j ≠ 0 ∧ Q (.int (i.fmod j)) μ
  | .Pow, .int i, .int j => CPow i j ∧ Q (.int (i ^ j.toNat)) μ
  | .Add, .str i, .str j => i.length + j.length ≤ sizeLine ∧ Q (.str (i ++ j)) μ
  | .Add, x, y => match asLM x μ, asLM y μ with
    | some xs, some ys => xs.length + ys.length ≤ sizeLine ∧ Q (.lst (xs ++ ys)) μ
    | _, _ => False
  | _, _, _ => False

def isNonD : D → Bool
  | .non => true
  | _ => false
def cmpD (o : CmpOp) (x y : D) (μ : Sto) (Q : Bool → Prop) : Prop := match o, x, y with
  | .Eq, x, y => eqOk (drf x μ) = true ∧ eqOk (drf y μ) = true ∧ Q (deq (drf x μ) (drf y μ))
  | .NotEq, x, y => eqOk (drf x μ) = true ∧ eqOk (drf y μ) = true ∧ Q (!deq (drf x μ) (drf y μ))
  | .Lt, .int i, .int j => Q (decide (i < j))
  | .LtE, .int i, .int j => Q (decide (i ≤ j))
  | .Gt, .int i, .int j => Q (decide (j < i))
  | .GtE, .int i, .int j => Q (decide (j ≤ i))
  | .Lt, .str i, .str j => Q (decide (i.cps.toList < j.cps.toList))
  | .In, .str i, .str j => Q (strIn i j)
  | .NotIn, .str i, .str j => Q (!strIn i j)
  | .In, x, .tup ys => eqOk x = true ∧ eqOk (.tup ys) = true ∧ Q (ys.any fun y => deq y x)
  | .NotIn, x, .tup ys => eqOk x = true ∧ eqOk (.tup ys) = true ∧ Q (!ys.any fun y => deq y x)
  | .In, x, y => match asLM y μ with
    | some ys => eqOk x = true ∧ eqOk (.lst ys) = true ∧ Q (ys.any fun y => deq y x)
    | none => match asK y μ, keyOf x with
      | some kvs, some k => Q (valD kvs k).isSome
      | _, _ => False
  | .NotIn, x, y => match asLM y μ with
    | some ys => eqOk x = true ∧ eqOk (.lst ys) = true ∧ Q (!ys.any fun y => deq y x)
    | none => match asK y μ, keyOf x with
      | some kvs, some k => Q (!(valD kvs k).isSome)
      | _, _ => False
  | .Lt, .tup xs, .tup ys => xs.length = ys.length ∧ match tupO ltF false xs ys with
    | some b => Q b
    | none => False
  | .LtE, .tup xs, .tup ys => xs.length = ys.length ∧ match tupO leF true xs ys with
    | some b => Q b
    | none => False
  | .Is, .bl a, .bl b => Q (decide (a = b))
  | .IsNot, .bl a, .bl b => Q (!decide (a = b))
  | .Is, x, .non => Q (isNonD x)
  | .IsNot, x, .non => Q (!isNonD x)
  | _, _, _ => False

def ixD (x y : D) (μ : Sto) (Q : Post) : Prop := match x, y with
  | .str s, .int i => s.length ≤ sizeLine ∧ match atI s.cps.toList i with
    | some c => Q (.str ⟨#[c]⟩) μ
    | none => False
  | x, y => match asSeq x μ, y with
    | some xs, .int i => match atI xs i with
      | some d => Q d μ
      | none => False
    | none, y => match asK x μ, keyOf y with
      | some kvs, some k => match valD kvs k with
        | some d => Q d μ
        | none => False
      | _, _ => False
    | _, _ => False
def cutD {α : Type} (xs : List α) (lo hi : Option Int) : List α := (xs.drop (HT.sIx xs.length 0 lo)).take (HT.sIx xs.length xs.length hi - HT.sIx xs.length 0 lo)
def slD (x : D) (lo hi : Option Int) (μ : Sto) (Q : Post) : Prop := match x with
  | .str s => s.length ≤ sizeLine ∧ Q (.str ⟨(cutD s.cps.toList lo hi).toArray⟩) μ
  | .tup ds => Q (.tup (cutD ds lo hi)) μ
  | x => match asL x μ with
    | some xs => Q (.lst (cutD xs lo hi)) μ
    | none => False
def truD (x : D) (μ : Sto) (Q : Bool → Prop) : Prop := match x with
  | .non => Q false
  | .bl b => Q b
  | .int i => Q (i != 0)
  | .str s => s.length ≤ sizeLine ∧ Q ((s.length : Int) != 0)
  | x => match asSeq x μ with
    | some xs => Q (!xs.isEmpty)
    | none => match asKM x μ with
      | some kvs => Q (!kvs.isEmpty)
      | none => False

/-- the rest of the items, one turn each; gd: what is walked stands still -/
def loopF (turn : D → Env → Sto → (Env → Sto → Prop) → Prop) (gd : Sto → Prop) (fin : Env → Sto → Prop) : List D → Env → Sto → Prop
  | [], δ, μ => gd μ ∧ fin δ μ
  | x :: r, δ, μ => gd μ ∧ turn x δ μ fun δ' μ' => loopF turn gd fin r δ' μ'
def loopW (tst : Env → Sto → (Bool → Sto → Prop) → Prop) (turn : Env → Sto → (Env → Sto → Prop) → Prop) (fin : Env → Sto → Prop) : Nat → Env → Sto → Prop
  | 0, _, _ => False
  | n + 1, δ, μ => tst δ μ fun b μ' => if b = true then turn δ μ' fun δ' μ'' => loopW tst turn fin n δ' μ'' else fin δ μ'
def loopC (turn : D → Sto → (Option D → Sto → Prop) → Prop) (gd : Sto → Prop) (fin : List D → Sto → Prop) : List D → List D → Sto → Prop
  | [], acc, μ => gd μ ∧ fin acc μ
  | x :: r, acc, μ => gd μ ∧ turn x μ fun o μ' => match o with
    | some y => acc.length < sizeLine ∧ loopC turn gd fin r (acc ++ [y]) μ'
    | none => loopC turn gd fin r acc μ'

def loopK (turn : D → Sto → (Key → D → Sto → Prop) → Prop) (gd : Sto → Prop) (fin : List (Key × D) → Sto → Prop) : List D → List (Key × D) → Sto → Prop
  | [], acc, μ => gd μ ∧ fin acc μ
  | x :: r, acc, μ => gd μ ∧ turn x μ fun k y μ' => acc.length < sizeLine ∧ loopK turn gd fin r (putD acc k y) μ'
def itD (d : D) (μ : Sto) (K : IPost) : Prop := match d with
  | .tup ds => K ds (fun _ => True) μ
  | .lst ds => K ds (fun _ => True) μ
  | .scr ds => K ds (fun _ => True) μ
  | .str s => K (s.cps.toList.map fun c => .str ⟨#[c]⟩) (fun _ => True) μ
  | .obj k => match μ.cell k with
    | some (.lst ds) => K ds (fun μ' => μ'.cell k = some (.lst ds)) μ
    | _ => False
  | _ => False
/-- the keys of a locked dict -/
def eKeys : EvI := fun _ ds μ K _ => match ds with
  | [.obj k] => match μ.cell k with
    | some (.lck kvs o es) => K (kvs.map fun kv => match kv.1 with | .inl i => .int i | .inr s => .str s) (fun μ' => μ'.cell k = some (.lck kvs o es)) μ
    | _ => False
  | _ => False
def intsD (lo : Int) (n : Nat) : List D := (List.range n).map fun (k : Nat) => D.int (lo + k)
def enumD (n : Nat) : List D → List D
  | [] => []
  | d :: ds => .tup [.int n, d] :: enumD (n + 1) ds
def wipeE (δ : Env) : List Nat → Env
  | [] => δ
  | v :: vs => (wipeE δ vs).set v none

/-- a part of a slice -/
def wpOpt (c : IR) (e : Sto → Post → Prop) (μ : Sto) (K : Option Int → Sto → Prop) : Prop := match c with
  | .nop => K none μ
  | _ => e μ fun d μ' => match d with
    | .int i => K (some i) μ'
    | _ => False

/-- the receiver's type, for a built-in's method -/
def tyD (T : String) (d : D) (μ : Sto) : Bool := match d with
  | .str _ => T == "str"
  | .lst _ | .scr _ => T == "list"
  | .obj k => match μ.cell k with
    | some (.lst _) => T == "list"
    | some (.dct _) => T == "dict"
    | _ => false
  | _ => false

/-- the dict cell in slot i -/
def lckD (δ : Env) (i : Nat) (μ : Sto) : Option (Nat × List (Key × D)) := match δ[i]? with
  | some (some (.obj k)) => match μ.cell k with
    | some (.dct kvs) => some (k, kvs)
    | _ => none
  | _ => none
def keyD : Key → D
  | .inl i => .int i
  | .inr s => .str s
mutual
def wpE : IR → Env → Sto → Post → XPost → Prop
  | .var i, δ, μ, Q, _ => match δ[i]? with
    | some (some d) => Q d μ
    | _ => False
  | .con d, _, μ, Q, _ => Q d μ
  | .glb _ d, _, μ, Q, _ => Q d μ
  | .bty n, _, μ, Q, _ => Q (.ty n) μ
  | .bin o a b, δ, μ, Q, X => wpE a δ μ (fun x μ1 => wpE b δ μ1 (fun y μ2 => binD o x y μ2 Q) X) X
  | .neg a, δ, μ, Q, X => wpE a δ μ (fun x μ1 => match x with
    | .int i => Q (.int (-i)) μ1
    | _ => False) X
  | .cmp o a b, δ, μ, Q, X => wpE a δ μ (fun x μ1 => wpE b δ μ1 (fun y μ2 => cmpD o x y μ2 fun r => Q (.bl r) μ2) X) X
  | .chn o o' a b c, δ, μ, Q, X => wpE a δ μ (fun x μ1 => wpE b δ μ1 (fun y μ2 => cmpD o x y μ2 fun r => if r = true then wpE c δ μ2 (fun z μ3 => cmpD o' y z μ3 fun r' => Q (.bl r') μ3) X else Q (.bl false) μ2) X) X
  | .one a, δ, μ, Q, X => wpE a δ μ Q X
  | .andV a r, δ, μ, Q, X => wpE a δ μ (fun x μ1 => match x with
    | .bl c => if c = true then wpE r δ μ1 Q X else Q (.bl false) μ1
    | _ => False) X
  | .orV a r, δ, μ, Q, X => wpE a δ μ (fun x μ1 => match x with
    | .bl c => if c = true then Q (.bl true) μ1 else wpE r δ μ1 Q X
    | _ => False) X
  | .notV a, δ, μ, Q, X => wpE a δ μ (fun x μ1 => match x with
    | .bl c => Q (.bl (!c)) μ1
    | _ => False) X
  | .ife t a b, δ, μ, Q, X => wpT t δ μ (fun c μ1 => if c = true then wpE a δ μ1 Q X else wpE b δ μ1 Q X) X
  | .ix a i, δ, μ, Q, X => wpE a δ μ (fun x μ1 => wpE i δ μ1 (fun y μ2 => ixD x y μ2 Q) X) X
  | .sl a lo hi, δ, μ, Q, X => wpE a δ μ (fun x μ1 => wpOpt lo (fun μ K => wpE lo δ μ K X) μ1 fun l μ2 => wpOpt hi (fun μ K => wpE hi δ μ K X) μ2 fun h μ3 => slD x l h μ3 Q) X
  | .tupC as, δ, μ, Q, X => wpA as δ μ (fun ds μ1 => ds.length ≤ sizeLine ∧ Q (.tup ds) μ1) X
  | .lstC as, δ, μ, Q, X => wpA as δ μ (fun ds μ1 => ds.length ≤ sizeLine ∧ Q (.lst ds) μ1) X
  | .lstM as, δ, μ, Q, X => wpA as δ μ (fun ds μ1 => ds.length ≤ sizeLine ∧ Q (.obj μ1.next) (μ1.new (.lst ds))) X
  | .cal _ sp as, δ, μ, Q, X => wpA as δ μ (fun ds μ1 => sp ds μ1 Q X) X
  | .bme T _ _ sp o as, δ, μ, Q, X => wpE o δ μ (fun d μ1 => tyD T d μ1 = true ∧ wpA as δ μ1 (fun ds μ2 => sp (d :: ds) μ2 Q (fun _ _ => False)) X) X
  | .mcl m tbl o as, δ, μ, Q, X => wpE o δ μ (fun d μ1 => match metOf m tbl d μ1 with
    | some sp => wpA as δ μ1 (fun ds μ2 => sp (d :: ds) μ2 Q X) X
    | none => False) X
  | .cpr own g it t e, δ, μ, Q, X => wpI it δ μ (fun xs gd μ1 => loopC (fun x μ N => wpG g x (wipeE δ (own.map (·.2))) μ fun δ2 μ2 => wpT t δ2 μ2 (fun b μ3 => if b = true then wpE e δ2 μ3 (fun y μ4 => N (some y) μ4) (fun _ _ => False) else N none μ3) (fun _ _ => False)) gd (fun ys μ2 => Q (.lst ys) μ2) xs [] μ1) X
  | .dcp own g it ke ve, δ, μ, Q, X => wpI it δ μ (fun xs gd μ1 => loopK (fun x μ N => wpG g x (wipeE δ (own.map (·.2))) μ fun δ2 μ2 => wpE ke δ2 μ2 (fun kd μ3 => wpE ve δ2 μ3 (fun y μ4 => match keyOf kd with
    | some k => N k y μ4
    | none => False) (fun _ _ => False)) (fun _ _ => False)) gd (fun kvs μ2 => Q (.obj μ2.next) (μ2.new (.dct kvs))) xs [] μ1) X
  | .nod _ ev as, δ, μ, Q, X => wpA as δ μ (fun ds μ1 => ev δ ds μ1 Q X) X
  | .lkE i e, δ, μ, Q, _ => match lckD δ i μ with
    | some (k, kvs) => ∀ o es, wpE e δ (μ.put k (.lck kvs o es)) (fun d μ' => μ'.cell k = some (.lck kvs o es) ∧ Q d (μ'.put k (.dct kvs))) (fun _ _ => False)
    | none => False
  | .frz a, δ, μ, Q, X => wpE a δ μ (fun x μ1 => match x with
    | .obj k => match μ1.cell k with
      | some (.lst ds) => Q (.lst ds) (μ1.del k)
      | _ => False
    | _ => False) X
  | _, _, _, _, _ => False
def wpA : IR → Env → Sto → (List D → Sto → Prop) → XPost → Prop
  | .nil, _, μ, Q, _ => Q [] μ
  | .cons a r, δ, μ, Q, X => wpE a δ μ (fun x μ1 => wpA r δ μ1 (fun xs μ2 => Q (x :: xs) μ2) X) X
  | _, _, _, _, _ => False
def wpT : IR → Env → Sto → (Bool → Sto → Prop) → XPost → Prop
  | .cmp o a b, δ, μ, Q, X => wpE a δ μ (fun x μ1 => wpE b δ μ1 (fun y μ2 => cmpD o x y μ2 fun r => Q r μ2) X) X
  | .chn o o' a b c, δ, μ, Q, X => wpE a δ μ (fun x μ1 => wpE b δ μ1 (fun y μ2 => cmpD o x y μ2 fun r => if r = true then wpE c δ μ2 (fun z μ3 => cmpD o' y z μ3 fun r' => Q r' μ3) X else Q false μ2) X) X
  | .tV a, δ, μ, Q, X => wpE a δ μ (fun x μ1 => truD x μ1 fun b => Q b μ1) X
  | .tNot t, δ, μ, Q, X => wpT t δ μ (fun b μ1 => Q (!b) μ1) X
  | .tOne t, δ, μ, Q, X => wpT t δ μ Q X
  | .tAnd t r, δ, μ, Q, X => wpT t δ μ (fun b μ1 => if b = true then wpT r δ μ1 Q X else Q false μ1) X
  | .tOr t r, δ, μ, Q, X => wpT t δ μ (fun b μ1 => if b = true then Q true μ1 else wpT r δ μ1 Q X) X
  | .nop, _, μ, Q, _ => Q true μ
  | .tnd _ ev as, δ, μ, Q, X => wpA as δ μ (fun ds μ1 => ev δ ds μ1 Q X) X
  | _, _, _, _, _ => False
def wpI : IR → Env → Sto → IPost → XPost → Prop
  | .ind _ ev as, δ, μ, K, X => wpA as δ μ (fun ds μ1 => ev δ ds μ1 K X) X
  | .itV a, δ, μ, K, X => wpE a δ μ (fun d μ1 => itD d μ1 K) X
  | .itm a, δ, μ, K, X => wpE a δ μ (fun d μ1 => match d with
    | .obj k => match μ1.cell k with
      | some (.lck kvs o es) => K (kvs.map fun kv => .tup [keyD kv.1, kv.2]) (fun μ' => μ'.cell k = some (.lck kvs o es)) μ1
      | _ => False
    | _ => False) X
  | .ien a, δ, μ, K, X => wpE a δ μ (fun d μ1 => match d with
    | .lst ds => K (enumD 0 ds) (fun _ => True) μ1
    | .obj k => match μ1.cell k with
      | some (.lst ds) => K (enumD 0 ds) (fun μ' => μ'.cell k = some (.lst ds)) μ1
      | _ => False
    | _ => False) X
  | .itR1 a, δ, μ, K, X => wpE a δ μ (fun d μ1 => match d with
    | .int n => -(2 ^ 62) ≤ n ∧ n < 2 ^ 62 ∧ K (intsD 0 n.toNat) (fun _ => True) μ1
    | _ => False) X
  | .itR2 a b, δ, μ, K, X => wpE a δ μ (fun d μ1 => wpE b δ μ1 (fun e μ2 => match d, e with
    | .int i, .int j => (-(2 ^ 62) ≤ i ∧ i < 2 ^ 62 ∧ -(2 ^ 62) ≤ j ∧ j < 2 ^ 62) ∧ K (intsD i (j - i).toNat) (fun _ => True) μ2
    | _, _ => False) X) X
  | _, _, _, _, _ => False
def wpG : IR → D → Env → Sto → (Env → Sto → Prop) → Prop
  | .gN i, d, δ, μ, Q => Q (δ.set i (some d)) μ
  | .gT n gs, d, δ, μ, Q => match asSeq d μ with
    | some ds => ds.length = n ∧ wpGs gs ds δ μ Q
    | none => False
  | .gSub o i, d, δ, μ, Q => wpE o δ μ (fun x μ1 => wpE i δ μ1 (fun y μ2 => match x, y with
    | .obj k, .int j => match μ2.cell k with
      | some (.lst ds) => match ixN ds.length j with
        | some n => Q δ (μ2.put k (.lst (ds.set n d)))
        | none => False
      | _ => False
    | .obj k, y => match μ2.cell k, keyOf y with
      | some (.dct kvs), some key => kvs.length < sizeLine ∧ Q δ (μ2.put k (.dct (putD kvs key d)))
      | _, _ => False
    | _, _ => False) (fun _ _ => False)) (fun _ _ => False)
  | _, _, _, _, _ => False
def wpGs : IR → List D → Env → Sto → (Env → Sto → Prop) → Prop
  | .nil, ds, δ, μ, Q => ds = [] ∧ Q δ μ
  | .cons g r, ds, δ, μ, Q => match ds with
    | d :: ds => wpG g d δ μ fun δ1 μ1 => wpGs r ds δ1 μ1 Q
    | [] => False
  | _, _, _, _, _ => False
def wpS : IR → Env → Sto → Outs → Prop
  | .asg g e, δ, μ, O => wpE e δ μ (fun d μ1 => wpG g d δ μ1 O.nx) (fun x μ' => O.xc x δ μ')
  | .asc i e, δ, μ, O => wpE e δ μ (fun d μ1 => O.nx (δ.set i (some d)) μ1) (fun x μ' => O.xc x δ μ')
  | .exp e, δ, μ, O => wpE e δ μ (fun _ μ1 => O.nx δ μ1) (fun x μ' => O.xc x δ μ')
  | .ret e, δ, μ, O => wpE e δ μ O.rt (fun x μ' => O.xc x δ μ')
  | .ret0, _, μ, O => O.rt .non μ
  | .ifS t a b, δ, μ, O => wpT t δ μ (fun c μ1 => if c = true then wpS a δ μ1 O else wpS b δ μ1 O) (fun x μ' => O.xc x δ μ')
  | .whl t b, δ, μ, O => ∃ n, loopW (fun δ μ Q => wpT t δ μ Q (fun x μ' => O.xc x δ μ')) (fun δ μ N => wpS b δ μ { O with nx := N, ct := N, bk := O.nx }) O.nx n δ μ
  | .fr g it b, δ, μ, O => wpI it δ μ (fun xs gd μ1 => loopF (fun x δ μ N => wpG g x δ μ fun δ' μ' => wpS b δ' μ' { O with nx := N, ct := N, bk := O.nx }) gd O.nx xs δ μ1) (fun x μ' => O.xc x δ μ')
  | .brk, δ, μ, O => O.bk δ μ
  | .cnt, δ, μ, O => O.ct δ μ
  | .pas, δ, μ, O => O.nx δ μ
  | .sno _ ev as, δ, μ, O => wpA as δ μ (fun ds μ1 => ev δ ds μ1 O) (fun x μ' => O.xc x δ μ')
  | .lkS i s, δ, μ, O => match lckD δ i μ with
    | some (k, kvs) => ∀ o es, wpS s δ (μ.put k (.lck kvs o es)) ⟨fun δ' μ' => μ'.cell k = some (.lck kvs o es) ∧ O.nx δ' (μ'.put k (.dct kvs)), fun d μ' => μ'.cell k = some (.lck kvs o es) ∧ O.rt d (μ'.put k (.dct kvs)),
        fun δ' μ' => μ'.cell k = some (.lck kvs o es) ∧ O.bk δ' (μ'.put k (.dct kvs)), fun δ' μ' => μ'.cell k = some (.lck kvs o es) ∧ O.ct δ' (μ'.put k (.dct kvs)), fun _ _ _ => False⟩
    | none => False
  | .nev, _, _, _ => False
  | .seq s r, δ, μ, O => wpS s δ μ { O with nx := fun δ' μ' => wpS r δ' μ' O }
  | .nil, δ, μ, O => O.nx δ μ
  | _, _, _, _ => False
end
end M
end

section
set_option Elab.async false
set_option linter.all false
set_option maxRecDepth 100000
set_option maxHeartbeats 4000000
/-! M: operators, subscripts, slices, truth by values. -/
namespace M
open PySem PySem.Spec PyProof.Rows L2

abbrev wd (X : Cx) (T : List Addr) (cls : Nat → Addr) : Wd := ⟨X.K, T, cls⟩
/-- what is wanted behind -/
def After (W : Wd) (S : Ss) (QM : Post) (Q : VK) : Prop := ∀ S' d v, S.le S' → Rl W S' → Rep W.K S'.vw d v → QM d S'.μ → Q v S'.H
def AfterX (W : Wd) (S : Ss) (QX : XPost) (E : XK) : Prop := ∀ S' x, S.le S' → Rl W S' → QX x S'.μ → E (.ref (W.cls x)) none S'.H
def AfterB (W : Wd) (S : Ss) (QM : Bool → Sto → Prop) (Q : Bool → Hp → Prop) : Prop := ∀ S' b, S.le S' → Rl W S' → QM b S'.μ → Q b S'.H
theorem After.le {W : Wd} {S S' : Ss} {QM : Post} {Q : VK} (l : S.le S') (h : After W S QM Q) : After W S' QM Q := fun S2 d v l2 => h S2 d v (l.trans l2)
theorem AfterX.le {W : Wd} {S S' : Ss} {QM : XPost} {Q : XK} (l : S.le S') (h : AfterX W S QM Q) : AfterX W S' QM Q := fun S2 d l2 => h S2 d (l.trans l2)
theorem AfterB.le {W : Wd} {S S' : Ss} {QM : Bool → Sto → Prop} {Q : Bool → Hp → Prop} (l : S.le S') (h : AfterB W S QM Q) : AfterB W S' QM Q := fun S2 d l2 => h S2 d (l.trans l2)

section
variable {W : Wd} {S : Ss} {d e : D} {v u : V} {ds : List D}
theorem asLM_rep (R : Rl W S) (r : Rep W.K S.vw d v) (h : asLM d S.μ = some ds) : ∃ a xs, v = .ref a ∧ S.H a = some (.lst xs) ∧ Reps W.K S.vw ds xs := by
  unfold asLM at h
  split at h
  · cases h
    obtain ⟨a, xs, e1, s, r2⟩ := r
    exact ⟨a, xs, e1, hid_ex s, r2⟩
  · rename_i k
    split at h
    · rename_i c hc
      cases h
      obtain ⟨xs, e1, r2⟩ := R.ok _ _ hc
      exact ⟨_, xs, r.2, e1, r2⟩
    · cases h
  · cases h
theorem asL_rep (R : Rl W S) (r : Rep W.K S.vw d v) (h : asL d S.μ = some ds) : ∃ a xs, v = .ref a ∧ SqL W.K S.H a xs ∧ Reps W.K S.vw ds xs := by
  unfold asL at h
  split at h
  · cases h
    obtain ⟨a, xs, e1, s, r2⟩ := r
    exact ⟨a, xs, e1, SqL.of (hid_ex s), r2⟩
  · cases h
    obtain ⟨a, xs, e1, s, r2⟩ := r
    exact ⟨a, xs, e1, hid_ext.sql s, r2⟩
  · rename_i k
    split at h
    · rename_i c hc
      cases h
      obtain ⟨xs, e1, r2⟩ := R.ok _ _ hc
      exact ⟨_, xs, r.2, SqL.of e1, r2⟩
    · cases h
  · cases h
theorem asSeq_rep (R : Rl W S) (r : Rep W.K S.vw d v) (h : asSeq d S.μ = some ds) : ∃ a xs, v = .ref a ∧ (SqL W.K S.H a xs ∨ SqT W.K S.H a xs) ∧ Reps W.K S.vw ds xs := by
  unfold asSeq at h
  split at h
  · cases h
    obtain ⟨a, xs, e1, s, r2⟩ := r
    exact ⟨a, xs, e1, .inr (hid_ext.sqt s), r2⟩
  · obtain ⟨a, xs, e1, s, r2⟩ := asL_rep R r h
    exact ⟨a, xs, e1, .inl s, r2⟩
mutual
theorem dp_of {K : PySem.W.Frag} {w : Vw} {H : Hp} (hx : Ext w.G H) : ∀ {d : D} {v : V}, Rep K w d v → pureD d = true → Dp K H v (pyOf d)
  | .non, _, h, _ => by cases (show _ = V.non from h); exact .non
  | .bl b, _, h, _ => by cases (show _ = V.bl b from h); exact .bl b
  | .int b, _, h, _ => by cases (show _ = V.int b from h); exact .int b
  | .str b, _, h, _ => by cases (show _ = V.str b from h); exact .str b
  | .tup ds, _, ⟨a, xs, e, s, r⟩, p => by cases e; exact .tup (hx.sqt s) (dps_of hx r p)
  | .lst ds, _, ⟨a, xs, e, s, r⟩, p => by cases e; exact .lst (SqL.of (hx.at s fun _ z => by cases z)) (dps_of hx r p)
  | .ty _, _, _, p => by cases (show false = true from p)
  | .scr _, _, _, p => by cases (show false = true from p)
  | .obj _, _, _, p => by cases (show false = true from p)
theorem dps_of {K : PySem.W.Frag} {w : Vw} {H : Hp} (hx : Ext w.G H) : ∀ {ds : List D} {vs : List V}, Reps K w ds vs → pureDs ds = true → DpAll K H vs (pyOfs ds)
  | [], _, h, _ => by cases (show _ = [] from h); exact .nil
  | d :: ds, _, ⟨x, r, e, h, t⟩, p => by
    cases e
    have p2 : (pureD d && pureDs ds) = true := p
    rw [Bool.and_eq_true] at p2
    exact .cons (dp_of hx h p2.1) (dps_of hx t p2.2)
end
theorem eqN_ok : ∀ (n : Nat) (d : D), eqN n d = true → pureD d = true ∧ (pyOf d).plain = true ∧ (pyOf d).depth ≤ n := by
  have all : ∀ (n : Nat), (∀ d, eqN n d = true → pureD d = true ∧ (pyOf d).plain = true ∧ (pyOf d).depth ≤ n) → ∀ ds : List D, ds.all (eqN n) = true → pureDs ds = true ∧ PyData.plainAll (pyOfs ds) = true ∧ PyData.depthAll (pyOfs ds) ≤ n := by
    intro n ih ds
    induction ds with
    | nil => exact fun _ => ⟨rfl, rfl, Nat.zero_le _⟩
    | cons d ds ih2 =>
      intro h
      rw [List.all_cons, Bool.and_eq_true] at h
      obtain ⟨a1, a2, a3⟩ := ih d h.1
      obtain ⟨b1, b2, b3⟩ := ih2 h.2
      refine ⟨by show (pureD d && pureDs ds) = true; rw [a1, b1]; rfl, by show (PyData.plain (pyOf d) && PyData.plainAll (pyOfs ds)) = true; rw [a2, b2]; rfl, ?_⟩
      show max (PyData.depth (pyOf d)) (PyData.depthAll (pyOfs ds)) ≤ n
      omega
  intro n
  induction n with
  | zero => intro d h; cases d <;> first | (cases (show false = true from h); done) | exact ⟨rfl, rfl, Nat.le_refl _⟩
  | succ n ih =>
    intro d h
    cases d with
    | non => exact ⟨rfl, rfl, Nat.zero_le _⟩
    | bl b => exact ⟨rfl, rfl, Nat.zero_le _⟩
    | int b => exact ⟨rfl, rfl, Nat.zero_le _⟩
    | str b => exact ⟨rfl, rfl, Nat.zero_le _⟩
    | tup ds =>
      obtain ⟨a1, a2, a3⟩ := all n ih ds h
      exact ⟨a1, a2, Nat.succ_le_succ a3⟩
    | lst ds =>
      obtain ⟨a1, a2, a3⟩ := all n ih ds h
      exact ⟨a1, a2, Nat.succ_le_succ a3⟩
    | _ => cases (show false = true from h)
theorem drf_dp (R : Rl W S) (r : Rep W.K S.vw d v) (h : eqOk (drf d S.μ) = true) : Dp W.K S.H v (pyOf (drf d S.μ)) ∧ (pyOf (drf d S.μ)).plain = true ∧ (pyOf (drf d S.μ)).depth ≤ 12 := by
  have h2 := eqN_ok 12 _ h
  refine ⟨?_, h2.2⟩
  unfold drf at h2 ⊢
  split
  · rename_i ds e
    rw [e] at h2
    obtain ⟨a, xs, e1, s, r2⟩ := asLM_rep R r e
    subst e1
    exact .lst (SqL.of s) (dps_of hid_ext r2 h2.1)
  · rename_i e
    rw [e] at h2
    exact dp_of hid_ext r h2.1
theorem eqOk_dp (r : Rep W.K S.vw d v) (h : eqOk d = true) : Dp W.K S.H v (pyOf d) ∧ (pyOf d).plain = true ∧ (pyOf d).depth ≤ 12 := by
  have h2 := eqN_ok 12 _ h
  exact ⟨dp_of hid_ext r h2.1, h2.2⟩
theorem pyOfs_any (x : D) : ∀ ys : List D, (pyOfs ys).any (fun z => PyData.eqv z (pyOf x)) = ys.any fun y => deq y x
  | [] => rfl
  | y :: ys => by
    show (PyData.eqv (pyOf y) (pyOf x) || (pyOfs ys).any _) = (deq y x || ys.any _)
    rw [pyOfs_any x ys]
    rfl
theorem flat_rep {K : PySem.W.Frag} {w : Vw} (h : flatD d = true) (r : Rep K w d v) : flatV v = true := by
  cases d <;> first | (cases (show false = true from h)) | (have e : v = _ := r; subst e; rfl)
theorem flats_rep {K : PySem.W.Frag} {w : Vw} : ∀ {ds : List D} {vs : List V}, ds.all flatD = true → Reps K w ds vs → vs.all flatV = true
  | [], _, _, r => by cases (show _ = [] from r); rfl
  | d :: ds, _, h, ⟨x, t, e, r1, r2⟩ => by
    cases e
    rw [List.all_cons, Bool.and_eq_true] at h ⊢
    exact ⟨flat_rep h.1 r1, flats_rep h.2 r2⟩
theorem flat_eq {K : PySem.W.Frag} {w : Vw} (hd : flatD d = true) (he : flatD e = true) (r : Rep K w d v) (q : Rep K w e u) : eqV v u = deq d e := by
  cases d <;> first | (cases (show false = true from hd)) | skip
  all_goals (cases e <;> first | (cases (show false = true from he)) | skip)
  all_goals (have e1 : v = _ := r; have e2 : u = _ := q; subst e1 e2)
  all_goals first | rfl | (unfold eqV deq pyOf PyData.eqv; rfl) | skip
  all_goals (simp only [eqV, deq, pyOf, PyData.eqv])
  all_goals first | rfl | (rename_i a b; cases a <;> cases b <;> rfl) | skip
theorem flat_any {K : PySem.W.Frag} {w : Vw} (hx : flatD e = true) (rx : Rep K w e u) : ∀ {ds : List D} {vs : List V}, ds.all flatD = true → Reps K w ds vs → inV u vs = ds.any fun y => deq y e
  | [], _, _, r => by cases (show _ = [] from r); rfl
  | d :: ds, _, h, ⟨x, t, e1, r1, r2⟩ => by
    cases e1
    rw [List.all_cons, Bool.and_eq_true] at h
    show (eqV x u || inV u t) = (deq d e || ds.any _)
    rw [flat_eq h.1 hx r1 rx, flat_any hx rx h.2 r2]
end

/-! ### binary operators -/
theorem repS_nil {s : Str} (h : s.length = 0) (n : Nat) : repS s n = s := by
  obtain ⟨c⟩ := s
  have hc : c = #[] := Array.eq_empty_of_size_eq_zero h
  subst hc
  unfold repS
  congr 1
  induction n with
  | zero => rfl
  | succ n ih => rw [List.replicate_succ, List.foldl_cons]; exact ih
theorem foldl_size (c : Array Nat) : ∀ (n : Nat) (acc : Array Nat), ((List.replicate n c).foldl (· ++ ·) acc).size = acc.size + c.size * n
  | 0, acc => by simp
  | n + 1, acc => by
    rw [List.replicate_succ, List.foldl_cons, foldl_size c n, Array.size_append, Nat.mul_succ]
    omega
theorem repS_length {s : Str} {n : Nat} : (repS s n).length = s.length * n := by
  show (repS s n).cps.size = s.cps.size * n
  unfold repS
  rw [foldl_size]
  simp
theorem repS_one {s : Str} : repS s 1 = s := by
  obtain ⟨c⟩ := s
  unfold repS
  simp
theorem op_mulS {X : Cx} : OpR X (binaryOp .Mult) (fun x y H Q => ∃ (s : Str) (n : Int), x = .str s ∧ y = .int n ∧ 0 ≤ n ∧ n < 2 ^ 31 ∧ s.length * n.toNat ≤ sizeLine ∧ Q (.str (repS s n.toNat)) H) := by
  intro pins s σ H x y v u Q I rx ry h
  obtain ⟨z, n, rfl, rfl, h0, h1, h2, q⟩ := h
  obtain ⟨t, rfl⟩ := rx
  obtain ⟨t', rfl⟩ := ry
  have hs : sizeLine = 16777216 := sizeLine_eq
  refine PySem.P.mul_str ?_ (fun h3 h4 => ?_) (fun h3 h4 => ?_) ?_
  · have e1 : decide (n < -(2 ^ 63 : Int)) = false := decide_eq_false (by omega)
    have e2 : decide (n ≥ 2 ^ 63) = false := decide_eq_false (by omega)
    rw [e1, e2]
    rfl
  · have h5 : (z.length : Int) * n ≤ 16777216 := by
      have : ((z.length * n.toNat : Nat) : Int) ≤ 16777216 := by omega
      rw [Int.natCast_mul, Int.toNat_of_nonneg h0] at this
      exact this
    have h6 : (z.length : Int) ≤ (2 ^ 63 - 1) / n := by
      rw [Int.le_ediv_iff_mul_le (by omega)]
      omega
    omega
  · unfold Builtin.Str.tooLong
    exact decide_eq_false (by omega)
  · by_cases h3 : n < 1
    · rw [if_pos h3]
      have e : n = 0 := by omega
      subst e
      exact ⟨by decide, ⟨.str _, H, I.tok _, ⟨_, rfl⟩, q⟩⟩
    · rw [if_neg h3]
      by_cases h4 : (n == 1 || z.length == 0) = true
      · rw [if_pos h4]
        have e : repS z n.toNat = z := by
          rw [Bool.or_eq_true, beq_iff_eq, beq_iff_eq] at h4
          rcases h4 with rfl | h4
          · exact repS_one
          · exact repS_nil h4 _
        rw [e] at q
        exact ⟨.str z, H, I, ⟨_, rfl⟩, q⟩
      · rw [if_neg h4]
        refine ⟨?_, ⟨.str _, H, I.tok _, ⟨_, rfl⟩, q⟩⟩
        show (repS z n.toNat).length ≤ sizeLine
        rw [repS_length]
        exact h2

def R2d (W : Wd) (f : D → D → Sto → Post → Prop) : R2 := fun x y H Q => ∃ S dx dy QM, S.H = H ∧ Rl W S ∧ Rep W.K S.vw dx x ∧ Rep W.K S.vw dy y ∧ f dx dy S.μ QM ∧ After W S QM Q
section
variable {X : Cx} {T : List Addr} {cls : Nat → Addr}
theorem fresh_lst {W : Wd} {S : Ss} {QM : Post} {Q : VK} {ds : List D} {xs : List V} (R : Rl W S) (r : Reps W.K S.vw ds xs) (hb : QM (.lst ds) S.μ) (hq : After W S QM Q) :
    ∀ p, S.H p = none → Q (.ref p) (upd S.H p (.lst xs)) := fun p hp => by
  obtain ⟨l, R2, g⟩ := R.fresh (o := .lst xs) hp
  exact hq { S with H := upd S.H p (.lst xs) } (.lst ds) (.ref p) l R2 ⟨p, xs, rfl, g, r.mono l.1⟩ hb
theorem fresh_tup {W : Wd} {S : Ss} {QM : Post} {Q : VK} {ds : List D} {xs : List V} (R : Rl W S) (r : Reps W.K S.vw ds xs) (hb : QM (.tup ds) S.μ) (hq : After W S QM Q) :
    ∀ p, S.H p = none → Q (.ref p) (upd S.H p (.tup xs)) := fun p hp => by
  obtain ⟨l, R2, g⟩ := R.fresh (o := .tup xs) hp
  exact hq { S with H := upd S.H p (.tup xs) } (.tup ds) (.ref p) l R2 ⟨p, xs, rfl, SqT.of g, r.mono l.1⟩ hb
theorem bin_ok {o : Operator} : OpR X (binaryOp o) (R2d (wd X T cls) (binD o)) := by
  intro pins s σ _ x y v u Q I rx ry h0
  obtain ⟨S, dx, dy, QM, rfl, R, hx, hy, hb, hq⟩ := h0
  unfold binD at hb
  have fin : ∀ {d v}, Rep X.K S.vw d v → QM d S.μ → Q v S.H := fun r q => hq S _ _ (Ss.le.refl _) R r q
  split at hb
  · exact op_add pins s σ _ x y v u Q I rx ry ⟨_, _, hx, hy, fin (d := .int _) rfl hb⟩
  · exact op_sub pins s σ _ x y v u Q I rx ry ⟨_, _, hx, hy, fin (d := .int _) rfl hb⟩
  · exact op_mul pins s σ _ x y v u Q I rx ry ⟨_, _, hx, hy, hb.1, fin (d := .int _) rfl hb.2⟩
  · exact op_mulS pins s σ _ x y v u Q I rx ry ⟨_, _, hx, hy, hb.1.1, hb.1.2.1, hb.1.2.2, fin (d := .str _) rfl hb.2⟩
  · exact op_fdivN pins s σ _ x y v u Q I rx ry ⟨_, _, hx, hy, hb.1, fin (d := .int _) rfl hb.2⟩
  · exact op_modN pins s σ _ x y v u Q I rx ry ⟨_, _, hx, hy, hb.1, fin (d := .int _) rfl hb.2⟩
  · exact op_pow pins s σ _ x y v u Q I rx ry ⟨_, _, hx, hy, hb.1, fin (d := .int _) rfl hb.2⟩
  · exact op_add_str pins s σ _ x y v u Q I rx ry ⟨_, _, hx, hy, hb.1, fin (d := .str _) rfl hb.2⟩
  · split at hb
    · rename_i xs ys e1 e2
      obtain ⟨a, vx, r1, g1, q1⟩ := asLM_rep R hx e1
      obtain ⟨b, vy, r2, g2, q2⟩ := asLM_rep R hy e2
      exact op_cat pins s σ _ x y v u Q I rx ry ⟨a, b, vx, vy, r1, r2, g1, g2, by rw [q1.length, q2.length]; exact hb.1, fresh_lst R (q1.append q2) hb.2 hq⟩
    · exact hb.elim
  · exact hb.elim

/-! ### comparisons -/
def R2c (W : Wd) (o : CmpOp) : R2 := fun x y H Q => ∃ S dx dy QM, S.H = H ∧ Rl W S ∧ Rep W.K S.vw dx x ∧ Rep W.K S.vw dy y ∧ cmpD o dx dy S.μ QM ∧ ∀ b, QM b → Q (.bl b) H
theorem none_iff {W : Wd} {S : Ss} {d : D} {v : V} (r : Rep W.K S.vw d v) : decide (v = V.non) = isNonD d := by
  cases d with
  | non => have e : v = _ := r; subst e; rfl
  | bl b => have e : v = _ := r; subst e; rfl
  | int b => have e : v = _ := r; subst e; rfl
  | str b => have e : v = _ := r; subst e; rfl
  | ty b => have e : v = _ := r; subst e; rfl
  | tup ds => obtain ⟨a, xs, e, _⟩ := r; subst e; rfl
  | lst ds => obtain ⟨a, xs, e, _⟩ := r; subst e; rfl
  | scr ds => obtain ⟨a, xs, e, _⟩ := r; subst e; rfl
  | obj k => have e := r.2; subst e; rfl
theorem one_sign {i : Str} {c : Nat} (h : i.cps.toList = [c]) : i = ⟨#[c]⟩ := by
  cases i with
  | mk cps =>
    have e : cps = #[c] := by
      apply Array.toList_inj.mp
      exact h
    rw [e]
theorem asK_rep {W : Wd} {S : Ss} {d : D} {v : V} {kvs : List (Key × D)} (R : Rl W S) (r : Rep W.K S.vw d v) (h : asK d S.μ = some kvs) : ∃ a es, v = .ref a ∧ Rd S.H a (.dK es) ∧ RepP W.K S.vw kvs es := by
  unfold asK at h
  split at h
  · rename_i j
    split at h
    · rename_i c hc
      cases h
      obtain ⟨xs, e1, r2⟩ := R.ok _ _ hc
      exact ⟨_, xs, r.2, .inl e1, r2⟩
    · rename_i c hc
      cases h
      obtain ⟨e1, r2⟩ := R.ok _ _ hc
      exact ⟨_, _, r.2, .inr ⟨_, e1⟩, r2⟩
    · cases h
  · cases h
theorem dget_rd {H : Hp} {a : Addr} {es : List (Key × V)} {k : Key} (h : Rd H a (.dK es)) : DGet H a (kV k) (valV es k) := .inl ⟨es, k, h, rfl, rfl⟩
theorem val_rep {K : PySem.W.Frag} {w : Vw} {k : Key} : ∀ {kvs : List (Key × D)} {es : List (Key × V)}, RepP K w kvs es → match valD kvs k with
    | some d => ∃ v, valV es k = some v ∧ Rep K w d v
    | none => valV es k = none
  | [], _, h => by
    have h : _ = [] := h
    subst h
    exact rfl
  | (a, d) :: kvs, _, ⟨x, r, e, h, t⟩ => by
    subst e
    unfold valD valV
    rw [List.find?_cons, List.find?_cons]
    by_cases ha : a = k
    · subst ha
      simp only [decide_true]
      exact ⟨x, rfl, h⟩
    · simp only [ha, decide_false]
      exact val_rep t
theorem key_rep {K : PySem.W.Frag} {w : Vw} {d : D} {v : V} {k : Key} (h : keyOf d = some k) (r : Rep K w d v) : v = kV k := by
  unfold keyOf at h
  split at h
  · cases h; exact r
  · cases h; exact r
  · cases h
theorem RepP.len {κ : Type} {K : PySem.W.Frag} {w : Vw} : ∀ {fs : List (κ × D)} {es : List (κ × V)}, RepP K w fs es → es.length = fs.length
  | [], es, h => by
    have e : es = [] := h
    subst e
    rfl
  | (g, d) :: fs, es, h => by
    obtain ⟨x, r, rfl, h1, h2⟩ := h
    rw [List.length_cons, List.length_cons, RepP.len h2]
theorem RepP.any {K : PySem.W.Frag} {w : Vw} {k : Key} : ∀ {fs : List (Key × D)} {es : List (Key × V)}, RepP K w fs es → (es.any fun kv => decide (kv.1 = k)) = fs.any fun kv => decide (kv.1 = k)
  | [], es, h => by
    have e : es = [] := h
    subst e
    rfl
  | (g, d) :: fs, es, h => by
    obtain ⟨x, r, rfl, h1, h2⟩ := h
    rw [List.any_cons, List.any_cons, RepP.any h2]
theorem RepP.map_put {K : PySem.W.Frag} {w : Vw} {k : Key} {d : D} {v : V} (r : Rep K w d v) : ∀ {fs : List (Key × D)} {es : List (Key × V)}, RepP K w fs es → RepP K w (fs.map fun kv => if kv.1 = k then (kv.1, d) else kv) (es.map fun kv => if kv.1 = k then (kv.1, v) else kv)
  | [], es, h => by
    have e : es = [] := h
    subst e
    exact rfl
  | (g, x) :: fs, es, h => by
    obtain ⟨y, t, rfl, h1, h2⟩ := h
    rw [List.map_cons, List.map_cons]
    by_cases e : g = k
    · rw [if_pos e, if_pos e]
      exact ⟨v, _, rfl, r, RepP.map_put r h2⟩
    · rw [if_neg e, if_neg e]
      exact ⟨y, _, rfl, h1, RepP.map_put r h2⟩
theorem RepP.append {κ : Type} {K : PySem.W.Frag} {w : Vw} : ∀ {fs gs : List (κ × D)} {es ms : List (κ × V)}, RepP K w fs es → RepP K w gs ms → RepP K w (fs ++ gs) (es ++ ms)
  | [], gs, es, ms, h, q => by
    have e : es = [] := h
    subst e
    exact q
  | (g, x) :: fs, gs, es, ms, h, q => by
    obtain ⟨y, t, rfl, h1, h2⟩ := h
    exact ⟨y, _, rfl, h1, RepP.append h2 q⟩
theorem RepP.put {K : PySem.W.Frag} {w : Vw} {k : Key} {d : D} {v : V} {fs : List (Key × D)} {es : List (Key × V)} (h : RepP K w fs es) (r : Rep K w d v) : RepP K w (putD fs k d) (putK es k v) := by
  unfold putD putK
  rw [h.any]
  split
  · exact h.map_put r
  · exact h.append ⟨v, [], rfl, r, rfl⟩
theorem RepP.drop {K : PySem.W.Frag} {w : Vw} {k : Key} : ∀ {fs : List (Key × D)} {es : List (Key × V)}, RepP K w fs es → RepP K w (dropD fs k) (dropK es k)
  | [], es, h => by
    have e : es = [] := h
    subst e
    exact rfl
  | (g, x) :: fs, es, h => by
    obtain ⟨y, t, rfl, h1, h2⟩ := h
    have ih := RepP.drop (k := k) h2
    unfold dropD dropK at ih ⊢
    rw [List.filter_cons, List.filter_cons]
    by_cases e : g = k
    · rw [if_neg (by simp [e]), if_neg (by simp [e])]
      exact ih
    · rw [if_pos (by simp [e]), if_pos (by simp [e])]
      exact ⟨y, _, rfl, h1, ih⟩
/-- tuples of flat data held beside each other -/
theorem tupO_facts {f : D → D → Option Bool} {z b : Bool} {xs ys : List D} {e r : Nat → Bool} (he : ∀ j, e j = deq (xs.getD j .non) (ys.getD j .non)) (hr : ∀ j, r j = (f (xs.getD j .non) (ys.getD j .non)).getD false) (hl : xs.length = ys.length) :
    ∀ (k i : Nat), i + k = xs.length → tupO f z (xs.drop i) (ys.drop i) = some b → Ob.lexAt e r z i k = b ∧
      ∀ j, i ≤ j → j < xs.length → (∀ m, i ≤ m → m < j → e m = true) → flatD (xs.getD j .non) = true ∧ flatD (ys.getD j .non) = true ∧ (e j = false → f (xs.getD j .non) (ys.getD j .non) = some (r j))
  | 0, i, hk, h => by
    rw [List.drop_of_length_le (by omega), List.drop_of_length_le (by omega)] at h
    have h : some z = some b := h
    exact ⟨Option.some.inj h, fun j h1 h2 => by omega⟩
  | k + 1, i, hk, h => by
    have hi : i < xs.length := by omega
    have hi' : i < ys.length := by omega
    rw [List.drop_eq_getElem_cons hi, List.drop_eq_getElem_cons hi'] at h
    have gx : xs.getD i .non = xs[i] := by simp [List.getD, hi]
    have gy : ys.getD i .non = ys[i] := by simp [List.getD, hi']
    unfold tupO at h
    split at h
    · rename_i fl
      by_cases q : deq xs[i] ys[i] = true
      · rw [if_pos q] at h
        obtain ⟨h1, h2⟩ := tupO_facts he hr hl k (i + 1) (by omega) h
        have ei : e i = true := by rw [he, gx, gy]; exact q
        refine ⟨by rw [Ob.lexAt_succ, if_pos ei]; exact h1, fun j hj hj2 hp => ?_⟩
        rcases Nat.lt_or_eq_of_le hj with c | c
        · exact h2 j c hj2 fun m hm hm2 => hp m (by omega) hm2
        · subst c
          rw [gx, gy]
          exact ⟨fl.1, fl.2, fun q2 => by rw [ei] at q2; cases q2⟩
      · rw [if_neg q] at h
        have ei : e i = false := by rw [he, gx, gy]; simpa using q
        have ri : r i = b := by rw [hr, gx, gy, h]; rfl
        refine ⟨by rw [Ob.lexAt_succ, if_neg (by simp [ei])]; exact ri, fun j hj hj2 hp => ?_⟩
        rcases Nat.lt_or_eq_of_le hj with c | c
        · have := hp i (Nat.le_refl _) c
          rw [ei] at this
          cases this
        · subst c
          rw [gx, gy]
          exact ⟨fl.1, fl.2, fun _ => by rw [ri]; exact h⟩
    · cases h
theorem ltF_ok {A : Around} {s : Shared} {W : Wd} {w : Vw} {d e : D} {x y : V} {u v : Value} {b : Bool} (rd : Rep W.K w d x) (re : Rep W.K w e y) (ru : RelV x u) (rv : RelV y v) (h : ltF d e = some b) : Ob.RcOp .Lt A s u v b := by
  unfold ltF at h
  split at h
  · cases h
    have e1 : x = _ := rd
    have e2 : y = _ := re
    subst e1 e2
    obtain ⟨t, rfl⟩ := ru
    obtain ⟨t', rfl⟩ := rv
    exact Ob.RcOp.lt_int _ _ _ _
  · cases h
    have e1 : x = _ := rd
    have e2 : y = _ := re
    subst e1 e2
    obtain ⟨t, rfl⟩ := ru
    obtain ⟨t', rfl⟩ := rv
    exact Tp.lt_text _ _ _ _
  · cases h
theorem leF_ok {A : Around} {s : Shared} {W : Wd} {w : Vw} {d e : D} {x y : V} {u v : Value} {b : Bool} (rd : Rep W.K w d x) (re : Rep W.K w e y) (ru : RelV x u) (rv : RelV y v) (h : leF d e = some b) : Ob.RcOp .LtE A s u v b := by
  unfold leF at h
  split at h
  · cases h
    have e1 : x = _ := rd
    have e2 : y = _ := re
    subst e1 e2
    obtain ⟨t, rfl⟩ := ru
    obtain ⟨t', rfl⟩ := rv
    exact Ob.RcOp.le_int _ _ _ _
  · cases h
    have e1 : x = _ := rd
    have e2 : y = _ := re
    subst e1 e2
    obtain ⟨t, rfl⟩ := ru
    obtain ⟨t', rfl⟩ := rv
    exact Tp.le_text _ _ _ _
  · cases h
theorem vals_getD : ∀ {xs : List V} {us : List Value} (j : Nat), Vals xs us → (h : j < us.length) → ∃ x, xs[j]? = some x ∧ RelV x us[j]
  | _, _, j, .nil, h => absurd h (Nat.not_lt_zero _)
  | _, _, 0, .cons r _, h => ⟨_, rfl, r⟩
  | _, _, j + 1, .cons _ t, h => vals_getD j t (by simpa using h)
theorem tup_ok {o : CmpOp} {f : D → D → Option Bool} {z b : Bool} {S : Ss} {xs ys : List D} {p q : V} {u v : Value} {s : Shared} {pins : List (Addr × Obj)} {σ : L2.St} (hu : X.A.units < cLine) (I : L2.Inv X pins σ S.H s) (rp : Rep X.K S.vw (.tup xs) p) (rq : Rep X.K S.vw (.tup ys) q) (ru : RelV p u) (rv : RelV q v)
    (hl : xs.length = ys.length) (h : tupO f z xs ys = some b)
    (rule : ∀ {l m : Addr} {its jts : Array Value} {e r : Nat → Bool}, s.heap.IsTuple l its → s.heap.IsTuple m jts → its.size = jts.size → (∀ j (a1 : j < its.size) (a2 : j < jts.size), Tp.Pre e j → SeqAt.EqAt X.A.in1 s its[j] jts[j] (e j)) → (∀ j (a1 : j < its.size) (a2 : j < jts.size), Tp.Pre e j → e j = false → Ob.RcOp o X.A.in1 s its[j] jts[j] (r j)) →
      Ob.RcOp o X.A s (.ref l) (.ref m) (Ob.lexAt e r z 0 its.size))
    (ord : ∀ {A : Around} {d e : D} {x y : V} {u v : Value} {b : Bool}, Rep X.K S.vw d x → Rep X.K S.vw e y → RelV x u → RelV y v → f d e = some b → Ob.RcOp o A s u v b) : Ob.RcOp o X.A s u v b := by
  obtain ⟨l, vs, rfl, g1, q1⟩ := rp
  obtain ⟨m, ws, rfl, g2, q2⟩ := rq
  cases ru
  cases rv
  obtain ⟨its, r1, p1, _⟩ := I.tuple (hid_ext.sqt g1)
  obtain ⟨jts, r2, p2, _⟩ := I.tuple (hid_ext.sqt g2)
  have n1 : its.length = xs.length := by rw [← r1.length, q1.length]
  have n2 : jts.length = ys.length := by rw [← r2.length, q2.length]
  obtain ⟨h1, h2⟩ := tupO_facts (f := f) (z := z) (b := b) (xs := xs) (ys := ys) (e := fun j => deq (xs.getD j .non) (ys.getD j .non)) (r := fun j => (f (xs.getD j .non) (ys.getD j .non)).getD false) (fun _ => rfl) (fun _ => rfl) hl xs.length 0 (by omega) (by simpa using h)
  have items : ∀ j (a1 : j < its.toArray.size) (a2 : j < jts.toArray.size), ∃ x y, Rep X.K S.vw (xs.getD j .non) x ∧ Rep X.K S.vw (ys.getD j .non) y ∧ RelV x its.toArray[j] ∧ RelV y jts.toArray[j] ∧ j < xs.length := fun j a1 a2 => by
    have b1 : j < its.length := by simpa using a1
    have b2 : j < jts.length := by simpa using a2
    obtain ⟨x, ex, rx⟩ := vals_getD j r1 b1
    obtain ⟨y, ey, ry⟩ := vals_getD j r2 b2
    obtain ⟨dx, edx, rdx⟩ := q1.get' ex
    obtain ⟨dy, edy, rdy⟩ := q2.get' ey
    exact ⟨x, y, by simpa [List.getD, edx] using rdx, by simpa [List.getD, edy] using rdy, by simpa using rx, by simpa using ry, by omega⟩
  have key := rule (e := fun j => deq (xs.getD j .non) (ys.getD j .non)) (r := fun j => (f (xs.getD j .non) (ys.getD j .non)).getD false) p1 p2 (by simp [n1, n2, hl]) (fun j a1 a2 pr => by
    obtain ⟨x, y, rdx, rdy, rx, ry, hj⟩ := items j a1 a2
    obtain ⟨f1, f2, _⟩ := h2 j (Nat.zero_le _) hj fun m _ hm => pr m hm
    have := eqAt_V (A := X.A.in1) (s := s) rx ry (flat_rep f1 rdx) (flat_rep f2 rdy)
    rw [flat_eq f1 f2 rdx rdy] at this
    exact this) (fun j a1 a2 pr hf => by
    obtain ⟨x, y, rdx, rdy, rx, ry, hj⟩ := items j a1 a2
    obtain ⟨_, _, f3⟩ := h2 j (Nat.zero_le _) hj fun m _ hm => pr m hm
    exact ord rdx rdy rx ry (f3 hf))
  rw [show its.toArray.size = xs.length by simp [n1]] at key
  have h1 : Ob.lexAt (fun j => deq (xs.getD j .non) (ys.getD j .non)) (fun j => (f (xs.getD j .non) (ys.getD j .non)).getD false) z 0 xs.length = b := h1
  rw [h1] at key
  exact key
theorem cmp_ok {o : CmpOp} (hu : X.A.units + 65 < cLine) : OpR X (compareOp o) (R2c (wd X T cls) o) := by
  intro pins s σ _ x y v u Q I rx ry h0
  obtain ⟨S, dx, dy, QM, rfl, R, hx, hy, hb, hq⟩ := h0
  unfold cmpD at hb
  have eqs : ∀ {dx dy : D} {x y : V} {v u : Value}, RelV x v → RelV y u → Dp X.K S.H x (pyOf dx) → Dp X.K S.H y (pyOf dy) → ∃ as bs, Reads s.heap v (pyOf dx) as ∧ Reads s.heap u (pyOf dy) bs := fun {dx dy x y v u} rx ry p1 p2 => by
    obtain ⟨as, r1⟩ := Dp.reads I _ x v p1 rx
    obtain ⟨bs, r2⟩ := Dp.reads I _ y u p2 ry
    exact ⟨as, bs, r1, r2⟩
  split at hb
  · obtain ⟨h1, h2, h3⟩ := hb
    obtain ⟨p1, s1, t1⟩ := drf_dp R hx h1
    obtain ⟨p2, s2, t2⟩ := drf_dp R hy h2
    obtain ⟨as, bs, r1, r2⟩ := eqs rx ry p1 p2
    exact SeqAt.eq_plain r1 r2 s1 s2 (by omega) ⟨.bl _, _, I, rfl, hq _ h3⟩
  · obtain ⟨h1, h2, h3⟩ := hb
    obtain ⟨p1, s1, t1⟩ := drf_dp R hx h1
    obtain ⟨p2, s2, t2⟩ := drf_dp R hy h2
    obtain ⟨as, bs, r1, r2⟩ := eqs rx ry p1 p2
    exact SeqAt.ne_plain r1 r2 s1 s2 (by omega) ⟨.bl _, _, I, rfl, hq _ h3⟩
  · exact op_lt pins s σ _ x y v u Q I rx ry ⟨_, _, hx, hy, hq _ hb⟩
  · exact op_le pins s σ _ x y v u Q I rx ry ⟨_, _, hx, hy, hq _ hb⟩
  · exact op_gt pins s σ _ x y v u Q I rx ry ⟨_, _, hx, hy, hq _ hb⟩
  · exact op_ge pins s σ _ x y v u Q I rx ry ⟨_, _, hx, hy, hq _ hb⟩
  · exact op_lt_str pins s σ _ x y v u Q I rx ry ⟨_, _, hx, hy, hq _ hb⟩
  · rename_i i j
    unfold strIn at hb
    split at hb
    · rename_i c e
      exact op_in_sign pins s σ _ x y v u Q I rx ry ⟨c, j, by rw [← one_sign e]; exact hx, hy, hq _ hb⟩
    · exact op_in_str pins s σ _ x y v u Q I rx ry ⟨_, _, hx, hy, hq _ hb⟩
  · rename_i i j
    unfold strIn at hb
    split at hb
    · rename_i c e
      exact op_notIn_sign pins s σ _ x y v u Q I rx ry ⟨c, j, by rw [← one_sign e]; exact hx, hy, hq _ hb⟩
    · exact op_notIn_str pins s σ _ x y v u Q I rx ry ⟨_, _, hx, hy, hq _ hb⟩
  · rename_i ys
    obtain ⟨h1, h2, h3⟩ := hb
    obtain ⟨p1, s1, t1⟩ := eqOk_dp hx h1
    obtain ⟨p2, s2, t2⟩ := eqOk_dp hy h2
    obtain ⟨as, bs, r1, r2⟩ := eqs rx ry p1 p2
    refine SeqAt.in_tuple_data r2 r1 s2 s1 (by omega) ⟨.bl _, _, I, rfl, ?_⟩
    rw [pyOfs_any]
    exact hq _ h3
  · rename_i ys
    obtain ⟨h1, h2, h3⟩ := hb
    obtain ⟨p1, s1, t1⟩ := eqOk_dp hx h1
    obtain ⟨p2, s2, t2⟩ := eqOk_dp hy h2
    obtain ⟨as, bs, r1, r2⟩ := eqs rx ry p1 p2
    refine SeqAt.notIn_tuple_data r2 r1 s2 s1 (by omega) ⟨.bl _, _, I, rfl, ?_⟩
    rw [pyOfs_any]
    exact hq _ h3
  · split at hb
    · rename_i ys e
      obtain ⟨h1, h2, h3⟩ := hb
      obtain ⟨a, xs, e1, g1, q1⟩ := asLM_rep R hy e
      obtain ⟨p1, s1, t1⟩ := eqOk_dp hx h1
      have h2' := eqN_ok 12 (.lst ys) h2
      have p2 : Dp X.K S.H y (pyOf (.lst ys)) := by rw [e1]; exact .lst (SqL.of g1) (dps_of hid_ext q1 h2'.1)
      obtain ⟨as, bs, r1, r2⟩ := eqs rx ry p1 p2
      refine SeqAt.in_list_data r2 r1 h2'.2.1 s1 (by omega) ⟨.bl _, _, I, rfl, ?_⟩
      rw [pyOfs_any]
      exact hq _ h3
    · split at hb
      · rename_i kvs key e1 e2
        obtain ⟨a, es, e3, ha, re⟩ := asK_rep R hy e1
        subst e3
        obtain rfl : u = Value.ref a := ry
        have := key_rep e2 hx
        subst this
        have hs := (val_rep (k := key) re)
        have hz : (valV es key).isSome = (valD kvs key).isSome := by
          cases hd : valD kvs key with
          | some d => rw [hd] at hs; obtain ⟨v', ev, _⟩ := hs; rw [ev]; rfl
          | none => rw [hd] at hs; rw [hs]; rfl
        exact d_in (by omega) I (dget_rd ha) rx fun s' I' => ⟨.bl _, _, I', rfl, by rw [hz]; exact hq _ hb⟩
      · exact hb.elim
  · split at hb
    · rename_i ys e
      obtain ⟨h1, h2, h3⟩ := hb
      obtain ⟨a, xs, e1, g1, q1⟩ := asLM_rep R hy e
      obtain ⟨p1, s1, t1⟩ := eqOk_dp hx h1
      have h2' := eqN_ok 12 (.lst ys) h2
      have p2 : Dp X.K S.H y (pyOf (.lst ys)) := by rw [e1]; exact .lst (SqL.of g1) (dps_of hid_ext q1 h2'.1)
      obtain ⟨as, bs, r1, r2⟩ := eqs rx ry p1 p2
      refine SeqAt.notIn_list_data r2 r1 h2'.2.1 s1 (by omega) ⟨.bl _, _, I, rfl, ?_⟩
      rw [pyOfs_any]
      exact hq _ h3
    · split at hb
      · rename_i kvs key e1 e2
        obtain ⟨a, es, e3, ha, re⟩ := asK_rep R hy e1
        subst e3
        obtain rfl : u = Value.ref a := ry
        have := key_rep e2 hx
        subst this
        have hs := (val_rep (k := key) re)
        have hz : (valV es key).isSome = (valD kvs key).isSome := by
          cases hd : valD kvs key with
          | some d => rw [hd] at hs; obtain ⟨v', ev, _⟩ := hs; rw [ev]; rfl
          | none => rw [hd] at hs; rw [hs]; rfl
        exact d_notIn (by omega) I (dget_rd ha) rx fun s' I' => ⟨.bl _, _, I', rfl, by rw [hz]; exact hq _ hb⟩
      · exact hb.elim
  · obtain ⟨hl, hb⟩ := hb
    split at hb
    · rename_i b e
      exact tup_ok (o := .Lt) (z := false) (by omega) I hx hy rx ry hl e (fun {l m its jts e r} p1 p2 hn he hr => by
        have := Tp.tup_lt (A := X.A) p1 p2 (by omega) he hr
        rw [hn, Nat.min_self, decide_eq_false (Nat.lt_irrefl _)] at this
        rw [hn]
        exact this) (fun a b c d e => ltF_ok (W := wd X T cls) a b c d e) X.prog X.w X.xe (EP X pins σ Q) ⟨.bl b, _, I, rfl, hq _ hb⟩
    · exact hb.elim
  · obtain ⟨hl, hb⟩ := hb
    split at hb
    · rename_i b e
      exact tup_ok (o := .LtE) (z := true) (by omega) I hx hy rx ry hl e (fun {l m its jts e r} p1 p2 hn he hr => by
        have := Tp.tup_le (A := X.A) p1 p2 (by omega) he hr
        rw [hn, Nat.min_self, decide_eq_true (Nat.le_refl _)] at this
        rw [hn]
        exact this) (fun a b c d e => leF_ok (W := wd X T cls) a b c d e) X.prog X.w X.xe (EP X pins σ Q) ⟨.bl b, _, I, rfl, hq _ hb⟩
    · exact hb.elim
  · exact op_is_bl pins s σ _ x y v u Q I rx ry ⟨_, _, hx, hy, hq _ hb⟩
  · exact op_isnot_bl pins s σ _ x y v u Q I rx ry ⟨_, _, hx, hy, hq _ hb⟩
  · refine op_isN pins s σ _ x y v u Q I rx ry ⟨hy, ?_⟩
    rw [none_iff hx]
    exact hq _ hb
  · refine op_notN pins s σ _ x y v u Q I rx ry ⟨hy, ?_⟩
    rw [none_iff hx]
    exact hq _ hb
  · exact hb.elim

/-! ### subscripts, slices, truth -/
theorem reps_at {K : PySem.W.Frag} {w : Vw} {ds : List D} {xs : List V} {i : Int} {d : D} (r : Reps K w ds xs) (h : atI ds i = some d) : ∃ v, atI xs i = some v ∧ Rep K w d v := by
  unfold atI at h ⊢
  rw [r.length]
  cases e : ixN ds.length i with
  | none => rw [e] at h; cases h
  | some j =>
    rw [e] at h
    exact r.get h
theorem ix_dct (hu : X.A.units + 1 < cLine) : IxR X (fun x y H Q => ∃ a v, x = .ref a ∧ DGet H a y (some v) ∧ Q v H) := by
  intro value slice pins s σ H x y v u Q I rx ry h0 hs
  obtain ⟨a, r, rfl, g, q⟩ := h0
  obtain rfl : v = Value.ref a := rx
  exact tail_any (dict_typeIs I g) PySem.F.slot_dict_getitem.lookup (d_getItem hu I g ry fun w' s' I' rw' => ⟨r, H, I', rw', q⟩) hs
theorem ix_ok (hu : X.A.units + 1 < cLine) : IxR X (R2d (wd X T cls) ixD) := by
  intro value slice pins s σ _ x y v u Q I rx ry h0 hs
  obtain ⟨S, dx, dy, QM, rfl, R, hx, hy, hb, hq⟩ := h0
  have fin : ∀ {d v}, Rep X.K S.vw d v → QM d S.μ → Q v S.H := fun r q => hq S _ _ (Ss.le.refl _) R r q
  unfold ixD at hb
  split at hb
  · obtain ⟨h1, h2⟩ := hb
    split at h2
    · rename_i c e
      exact ix_str value slice pins s σ _ x y v u Q I rx ry ⟨_, _, c, hx, hy, h1, e, fin (d := .str _) rfl h2⟩ hs
    · exact h2.elim
  · split at hb
    · rename_i xs i e _
      split at hb
      · rename_i d e2
        obtain ⟨a, vs, e1, g1, q1⟩ := asSeq_rep R hx e
        obtain ⟨vv, hw, hrv⟩ := reps_at q1 e2
        rcases g1 with g1 | g1
        · exact ix_list value slice pins s σ _ x y v u Q I rx ry ⟨a, vs, _, vv, e1, hy, g1, hw, fin hrv hb⟩ hs
        · exact ix_tup value slice pins s σ _ x y v u Q I rx ry ⟨a, vs, _, vv, e1, hy, g1, hw, fin hrv hb⟩ hs
      · exact hb.elim
    · split at hb
      · rename_i kvs key e1 e2
        split at hb
        · rename_i d e3
          obtain ⟨a, es, rfl, ha, re⟩ := asK_rep R hx e1
          have := key_rep e2 hy
          subst this
          have hv := val_rep (k := key) re
          rw [e3] at hv
          obtain ⟨v', ev, rv⟩ := hv
          exact ix_dct hu value slice pins s σ _ _ _ v u Q I rx ry ⟨a, v', rfl, by rw [← ev]; exact dget_rd ha, fin rv hb⟩ hs
        · exact hb.elim
      · exact hb.elim
    · exact hb.elim
def RSd (W : Wd) : V → Option Int → Option Int → Hp → VK → Prop := fun x lo hi H Q => ∃ S dx QM, S.H = H ∧ Rl W S ∧ Rep W.K S.vw dx x ∧ slD dx lo hi S.μ QM ∧ After W S QM Q
theorem reps_cut {K : PySem.W.Frag} {w : Vw} {ds : List D} {xs : List V} {lo hi : Option Int} (r : Reps K w ds xs) : Reps K w (cutD ds lo hi) (cutV xs lo hi) := by
  unfold cutD cutV
  rw [r.length]
  exact (r.drop _).take _
theorem cut_whole {α : Type} {xs : List α} {lo hi : Option Int} (h : HT.sIx xs.length 0 lo = 0 ∧ HT.sIx xs.length xs.length hi = xs.length) : cutD xs lo hi = xs := by
  unfold cutD
  rw [h.1, h.2]
  simp
theorem sl_ok : SlR X (RSd (wd X T cls)) := by
  intro pins s σ _ x v vl vu lo hi sl Q I rx hs pl pu h0
  obtain ⟨S, dx, QM, rfl, R, hx, hb, hq⟩ := h0
  unfold slD at hb
  split at hb
  · rename_i z
    exact sl_str pins s σ _ x v vl vu lo hi sl Q I rx hs pl pu ⟨z, hx, hb.1, hq S (.str _) _ (Ss.le.refl _) R rfl hb.2⟩
  · rename_i ds
    obtain ⟨a, vs, e1, g1, q1⟩ := hx
    subst e1
    exact sl_tupA pins s σ _ _ v vl vu lo hi sl Q I rx hs pl pu ⟨a, vs, rfl, hid_ext.sqt g1, fun hh => hq S (.tup _) _ (Ss.le.refl _) R ⟨a, vs, rfl, g1, by rw [cut_whole (by rw [← q1.length]; exact hh)]; exact q1⟩ hb, fun _ => fresh_tup R (reps_cut q1) hb hq⟩
  · split at hb
    · rename_i ds e
      obtain ⟨a, vs, e1, g1, q1⟩ := asL_rep R hx e
      exact sl_list pins s σ _ x v vl vu lo hi sl Q I rx hs pl pu ⟨a, vs, e1, g1, fresh_lst R (reps_cut q1) hb hq⟩
    · exact hb.elim
theorem tru_rep {W : Wd} {S : Ss} {d : D} {v : V} {QM : Bool → Prop} (R : Rl W S) (r : Rep W.K S.vw d v) (h : truD d S.μ QM) : ∃ k, TruV W.K v S.H k ∧ QM k := by
  have isE : ∀ {ds : List D} {xs : List V}, Reps W.K S.vw ds xs → (!ds.isEmpty) = !xs.isEmpty := fun {ds xs} q => by
    have := q.length
    cases ds <;> cases xs <;> first | rfl | simp at this
  unfold truD at h
  split at h
  · have e : v = _ := r; subst e; exact ⟨_, rfl, h⟩
  · have e : v = _ := r; subst e; exact ⟨_, rfl, h⟩
  · have e : v = _ := r; subst e; exact ⟨_, rfl, h⟩
  · have e : v = _ := r; subst e; exact ⟨_, ⟨h.1, rfl⟩, h.2⟩
  · split at h
    · rename_i ds e
      obtain ⟨a, xs, e1, g1, q1⟩ := asSeq_rep R r e
      subst e1
      rw [isE q1] at h
      rcases g1 with g1 | g1
      · exact ⟨_, .inl ⟨xs, g1, rfl⟩, h⟩
      · exact ⟨_, .inr (.inl ⟨xs, g1, rfl⟩), h⟩
    · split at h
      · rename_i kvs e
        unfold asKM at e
        split at e
        · rename_i k
          split at e
          · rename_i c hc
            cases e
            obtain ⟨es, e1, r2⟩ := R.ok _ _ hc
            have e2 := r.2
            subst e2
            refine ⟨_, .inr (.inr ⟨es, e1, rfl⟩), ?_⟩
            have : (!kvs.isEmpty) = !es.isEmpty := by
              cases kvs with
              | nil => cases (show es = [] from r2); rfl
              | cons p t =>
                obtain ⟨k1, d1⟩ := p
                obtain ⟨x, t2, e3, _⟩ := r2
                subst e3
                rfl
            rw [this] at h
            exact h
          · cases e
        · cases e
      · exact h.elim
end
end M
end

section
set_option Elab.async false
set_option linter.all false
set_option maxRecDepth 100000
set_option maxHeartbeats 4000000
/-! M: what the machine's terms have to do with the layer's readings, construct by construct. -/
namespace M
open PySem PySem.Spec PyProof.Rows L2

def AfterA (W : Wd) (S : Ss) (QM : List D → Sto → Prop) (Q : List V → Hp → Prop) : Prop := ∀ S' ds vs, S.le S' → Rl W S' → Reps W.K S'.vw ds vs → QM ds S'.μ → Q vs S'.H
def AfterO (W : Wd) (S : Ss) (QM : Option Int → Sto → Prop) (Q : Option Int → Hp → Prop) : Prop := ∀ S' o, S.le S' → Rl W S' → QM o S'.μ → Q o S'.H
theorem AfterA.le {W : Wd} {S S' : Ss} {QM : List D → Sto → Prop} {Q : List V → Hp → Prop} (l : S.le S') (h : AfterA W S QM Q) : AfterA W S' QM Q := fun S2 ds vs l2 => h S2 ds vs (l.trans l2)
theorem AfterO.le {W : Wd} {S S' : Ss} {QM : Option Int → Sto → Prop} {Q : Option Int → Hp → Prop} (l : S.le S') (h : AfterO W S QM Q) : AfterO W S' QM Q := fun S2 o l2 => h S2 o (l.trans l2)
/-- what is walked yields these data, one after another, while gd holds -/
def IterD (W : Wd) (J : It) (ds : List D) (gd : Sto → Prop) (S0 : Ss) : Prop :=
  ∀ S, S0.vw.le S.vw → Rl W S → gd S.μ → J.stop ds.length S.H ∧ ∀ i, i < ds.length → J.go i S.H ∧ ∀ x H', J.yld i S.H x H' → ∃ S' d, S.le S' ∧ Rl W S' ∧ S'.H = H' ∧ S'.μ = S.μ ∧ ds[i]? = some d ∧ Rep W.K S'.vw d x
theorem IterD.le {W : Wd} {J : It} {ds : List D} {gd : Sto → Prop} {S0 S1 : Ss} (l : S0.vw.le S1.vw) (h : IterD W J ds gd S0) : IterD W J ds gd S1 := fun S l2 => h S (l.trans l2)
def AfterI (W : Wd) (S : Ss) (KI : IPost) (R : It → Hp → Prop) : Prop := ∀ S' J ds gd, S.le S' → Rl W S' → IterD W J ds gd S' → KI ds gd S'.μ → R J S'.H

/-! ### the readings of the machine's terms -/
def DE (W : Wd) (Wx : WX) (c : IR) : TE := fun σ H Q => ∃ S δ QM QX, S.H = H ∧ Rl W S ∧ EnvR W S.vw δ σ ∧ wpE c δ S.μ QM QX ∧ After W S QM Q ∧ AfterX W S QX (WE Wx σ)
def DT (W : Wd) (Wx : WX) (c : IR) : TT := fun σ H Q => ∃ S δ QM QX, S.H = H ∧ Rl W S ∧ EnvR W S.vw δ σ ∧ wpT c δ S.μ QM QX ∧ AfterB W S QM Q ∧ AfterX W S QX (WE Wx σ)
def DA (W : Wd) (Wx : WX) (c : IR) : TA := fun σ H Q => ∃ S δ QM QX, S.H = H ∧ Rl W S ∧ EnvR W S.vw δ σ ∧ wpA c δ S.μ QM QX ∧ AfterA W S QM Q ∧ AfterX W S QX (WE Wx σ)
def DO (W : Wd) (Wx : WX) (c : IR) : TO := fun σ H Q => ∃ S δ QM QX, S.H = H ∧ Rl W S ∧ EnvR W S.vw δ σ ∧ wpOpt c (fun μ K => wpE c δ μ K QX) S.μ QM ∧ AfterO W S QM Q ∧ AfterX W S QX (WE Wx σ)
def DI (W : Wd) (Wx : WX) (c : IR) : TI := fun σ H R => ∃ S δ KI QX, S.H = H ∧ Rl W S ∧ EnvR W S.vw δ σ ∧ wpI c δ S.μ KI QX ∧ AfterI W S KI R ∧ AfterX W S QX (WE Wx σ)
def slotsG : IR → List Nat
  | .gN i => [i]
  | .gT _ gs => slotsG gs
  | .cons g r => slotsG g ++ slotsG r
  | _ => []
def AfterG (W : Wd) (S : Ss) (c : IR) (σ : L2.St) (QG : Env → Sto → Prop) (Q : L2.St → Hp → Prop) : Prop :=
  ∀ S' δ' σ', S.le S' → Rl W S' → EnvR W S'.vw δ' σ' → (σ'.length = σ.length ∧ ∀ j, j ∉ slotsG c → σ'[j]? = σ[j]?) → QG δ' S'.μ → Q σ' S'.H
def DG (W : Wd) (c : IR) : TG := fun v σ H Q => ∃ S δ d QG, S.H = H ∧ Rl W S ∧ EnvR W S.vw δ σ ∧ Rep W.K S.vw d v ∧ wpG c d δ S.μ QG ∧ AfterG W S c σ QG Q
def DGs (W : Wd) (c : IR) : TGs := fun vs σ H Q => ∃ S δ ds QG, S.H = H ∧ Rl W S ∧ EnvR W S.vw δ σ ∧ Reps W.K S.vw ds vs ∧ wpGs c ds δ S.μ QG ∧ AfterG W S c σ QG Q
structure ContS (W : Wd) (Wx : WX) (O : Outs) (E : Ends) (S : Ss) : Prop where
  nx : ∀ S' δ' σ', S.le S' → Rl W S' → EnvR W S'.vw δ' σ' → O.nx δ' S'.μ → E.nx σ' S'.H
  rt : After W S O.rt E.rt
  bk : ∀ S' δ' σ', S.le S' → Rl W S' → EnvR W S'.vw δ' σ' → O.bk δ' S'.μ → E.bk σ' S'.H
  ct : ∀ S' δ' σ', S.le S' → Rl W S' → EnvR W S'.vw δ' σ' → O.ct δ' S'.μ → E.ct σ' S'.H
  xc : ∀ S' x δ' σ', S.le S' → Rl W S' → EnvR W S'.vw δ' σ' → O.xc x δ' S'.μ → Wx (.ref (W.cls x)) none σ' S'.H
theorem ContS.le {W : Wd} {Wx : WX} {O : Outs} {E : Ends} {S S' : Ss} (l : S.le S') (h : ContS W Wx O E S) : ContS W Wx O E S' :=
  ⟨fun S2 δ σ l2 => h.nx S2 δ σ (l.trans l2), h.rt.le l, fun S2 δ σ l2 => h.bk S2 δ σ (l.trans l2), fun S2 δ σ l2 => h.ct S2 δ σ (l.trans l2), fun S2 x δ σ l2 => h.xc S2 x δ σ (l.trans l2)⟩
theorem ContS.afx {W : Wd} {Wx : WX} {O : Outs} {E : Ends} {S : Ss} {δ : Env} {σ : L2.St} (h : ContS W Wx O E S) (hE : EnvR W S.vw δ σ) : AfterX W S (fun x μ' => O.xc x δ μ') (WE Wx σ) :=
  fun S' x l R q => h.xc S' x δ σ l R (hE.mono l.1) q
def DS (W : Wd) (Wx : WX) (c : IR) : TS := fun E σ H => ∃ S δ O, S.H = H ∧ Rl W S ∧ EnvR W S.vw δ σ ∧ wpS c δ S.μ O ∧ ContS W Wx O E S
theorem afx_no {W : Wd} {S : Ss} {E : XK} : AfterX W S (fun _ _ => False) E := fun _ _ _ _ q => q.elim

section
variable {X : Cx} {T : List Addr} {cls : Nat → Addr} {Wx : WX}
theorem PE.weak {e : Expr} {t u : TE} (h : PE X e t) (k : ∀ σ H Q, u σ H Q → t σ H Q) : PE X e u := ⟨fun pins s σ H Q I hw => h.run pins s σ H Q I (k σ H Q hw)⟩
theorem PT.weak {e : Expr} {t u : TT} (h : PT X e t) (k : ∀ σ H Q, u σ H Q → t σ H Q) : PT X e u := ⟨fun pins s σ H Q I hw => h.run pins s σ H Q I (k σ H Q hw)⟩
theorem PW.weak {e : Expr} {t u : TT} (h : PW X e t) (k : ∀ σ H Q, u σ H Q → t σ H Q) : PW X e u := ⟨fun wh pins s σ H Q I hw => h.run wh pins s σ H Q I (k σ H Q hw)⟩
theorem PA.weak {e : List Expr} {t u : TA} (h : PA X e t) (k : ∀ σ H Q, u σ H Q → t σ H Q) : PA X e u := ⟨fun pos pins s σ H Q I hw => h.run pos pins s σ H Q I (k σ H Q hw)⟩
theorem PO.weak {e : Option Expr} {t u : TO} (h : PO X e t) (k : ∀ σ H Q, u σ H Q → t σ H Q) : PO X e u := ⟨fun pins s σ H Q I hw => h.run pins s σ H Q I (k σ H Q hw)⟩
theorem PI.weak {tg e : Expr} {t u : TI} (h : PI X tg e t) (k : ∀ σ H R, u σ H R → t σ H R) : PI X tg e u := ⟨fun pins s σ H Q I hw => h.run pins s σ H Q I (k σ H Q hw)⟩
theorem PG.weak {e : Expr} {t u : TG} (h : PG X e t) (k : ∀ v σ H Q, u v σ H Q → t v σ H Q) : PG X e u := ⟨fun pins s σ H v w Q I r hw => h.run pins s σ H v w Q I r (k v σ H Q hw)⟩
theorem PGs.weak {e : List Expr} {t u : TGs} (h : PGs X e t) (k : ∀ v σ H Q, u v σ H Q → t v σ H Q) : PGs X e u := ⟨fun pins s σ H v w Q I r hw => h.run pins s σ H v w Q I r (k v σ H Q hw)⟩
theorem PS.weak {e : Stmt} {t u : TS} (h : PS X e t) (k : ∀ D σ H, u D σ H → t D σ H) : PS X e u := ⟨fun pins s σ H D I hw => h.run pins s σ H D I (k D σ H hw)⟩
theorem PSs.weak {e : List Stmt} {t u : TS} (h : PSs X e t) (k : ∀ D σ H, u D σ H → t D σ H) : PSs X e u := ⟨fun pins s σ H D I hw => h.run pins s σ H D I (k D σ H hw)⟩
theorem PTs.weak {e : List Expr} {t u : TT} (h : PTs X e t) (k : ∀ σ H Q, u σ H Q → t σ H Q) : PTs X e u := ⟨fun pins s σ H Q I hw => h.run pins s σ H Q I (k σ H Q hw)⟩

/-! ### expressions -/
variable {a b c : Expr} {ca cb cc : IR} {pos : Pos}
theorem d_var {i : Nat} {x : Str} (hN : X.N[i]? = some x) (hv : Vis X.env.scope x) (hd : (x == ("__debug__" : Str)) = false) (hcd : (x == ("__classdict__" : Str)) = false) : PE X (.Name x pos) (DE (wd X T cls) Wx (.var i)) :=
  PE.weak (pe_var hN hv hd hcd) fun σ H Q h => by
    obtain ⟨S, δ, QM, QX, rfl, R, hE, hw, hq, hx⟩ := h
    simp only [wpE] at hw
    split at hw
    · rename_i d e
      obtain ⟨v, ev, r⟩ := hE.2 i d e
      exact ⟨v, ev, hq S d v (.refl _) R r hw⟩
    · exact hw.elim
theorem d_con {e : Expr} {d : D} {v : V} (h : PE X e (tC v)) (hr : ∀ w, Rep X.K w d v) : PE X e (DE (wd X T cls) Wx (.con d)) :=
  PE.weak h fun σ H Q h => by
    obtain ⟨S, δ, QM, QX, rfl, R, hE, hw, hq, hx⟩ := h
    exact hq S d v (.refl _) R (hr _) hw
theorem d_glb {e : Expr} {x : Str} {d : D} {v : V} (h : PE X e (tC v)) (hr : ∀ w, Rep X.K w d v) : PE X e (DE (wd X T cls) Wx (.glb x d)) :=
  PE.weak h fun σ H Q h => by
    obtain ⟨S, δ, QM, QX, rfl, R, hE, hw, hq, hx⟩ := h
    exact hq S d v (.refl _) R (hr _) hw
theorem d_bty {e : Expr} {n : String} (h : PE X e (tC (.ty n))) : PE X e (DE (wd X T cls) Wx (.bty n)) :=
  PE.weak h fun σ H Q h => by
    obtain ⟨S, δ, QM, QX, rfl, R, hE, hw, hq, hx⟩ := h
    exact hq S (.ty n) _ (.refl _) R rfl hw
theorem d_bin {o : Operator} (ha : PE X a (DE (wd X T cls) Wx ca)) (hb : PE X b (DE (wd X T cls) Wx cb)) : PE X (.BinOp a o b pos) (DE (wd X T cls) Wx (.bin o ca cb)) :=
  PE.weak (pe_op (bin_ok (T := T) (cls := cls)) ha hb) fun σ H Q h => by
    obtain ⟨S, δ, QM, QX, rfl, R, hE, hw, hq, hx⟩ := h
    simp only [wpE] at hw
    exact ⟨S, δ, _, QX, rfl, R, hE, hw, fun S1 d1 v1 l1 R1 r1 w1 => ⟨S1, δ, _, QX, rfl, R1, hE.mono l1.1, w1, fun S2 d2 v2 l2 R2 r2 w2 => ⟨S2, d1, d2, QM, rfl, R2, r1.mono l2.1, r2, w2, hq.le (l1.trans l2)⟩, hx.le l1⟩, hx⟩
theorem d_neg (ha : PE X a (DE (wd X T cls) Wx ca)) : PE X (.UnaryOp .USub a pos) (DE (wd X T cls) Wx (.neg ca)) :=
  PE.weak (pe_un un_neg ha) fun σ H Q h => by
    obtain ⟨S, δ, QM, QX, rfl, R, hE, hw, hq, hx⟩ := h
    simp only [wpE] at hw
    refine ⟨S, δ, _, QX, rfl, R, hE, hw, fun S1 d1 v1 l1 R1 r1 w1 => ?_, hx⟩
    dsimp only at w1 ⊢
    split at w1
    · exact ⟨_, r1, hq S1 (.int _) _ l1 R1 rfl w1⟩
    · exact w1.elim
theorem d_cmp {o : CmpOp} {k : Nat} (hr : Room k X.A) (ha : PE X a (DE (wd X T cls) Wx ca)) (hb : PE X b (DE (wd X T cls) Wx cb)) (hm : behindInMarks o b = false) : PE X (.Compare a [o] [b] pos) (DE (wd X T cls) Wx (.cmp o ca cb)) :=
  PE.weak (pe_cmpR (cmp_ok (T := T) (cls := cls) (by have := hr.un; omega)) ha hb hm) fun σ H Q h => by
    obtain ⟨S, δ, QM, QX, rfl, R, hE, hw, hq, hx⟩ := h
    simp only [wpE] at hw
    exact ⟨S, δ, _, QX, rfl, R, hE, hw, fun S1 d1 v1 l1 R1 r1 w1 => ⟨S1, δ, _, QX, rfl, R1, hE.mono l1.1, w1, fun S2 d2 v2 l2 R2 r2 w2 => ⟨S2, d1, d2, _, rfl, R2, r1.mono l2.1, r2, w2, fun b q => hq S2 (.bl b) (.bl b) (l1.trans l2) R2 rfl q⟩, hx.le l1⟩, hx⟩
theorem t_cmp {o : CmpOp} {k : Nat} (hr : Room k X.A) (ha : PE X a (DE (wd X T cls) Wx ca)) (hb : PE X b (DE (wd X T cls) Wx cb)) (hm : behindInMarks o b = false) : PT X (.Compare a [o] [b] pos) (DT (wd X T cls) Wx (.cmp o ca cb)) :=
  PT.weak (pt_cmpR (cmp_ok (T := T) (cls := cls) (by have := hr.un; omega)) ha hb hm) fun σ H Q h => by
    obtain ⟨S, δ, QM, QX, rfl, R, hE, hw, hq, hx⟩ := h
    simp only [wpT] at hw
    exact ⟨S, δ, _, QX, rfl, R, hE, hw, fun S1 d1 v1 l1 R1 r1 w1 => ⟨S1, δ, _, QX, rfl, R1, hE.mono l1.1, w1, fun S2 d2 v2 l2 R2 r2 w2 => ⟨S2, d1, d2, _, rfl, R2, r1.mono l2.1, r2, w2, fun b q => ⟨b, rfl, hq S2 b (l1.trans l2) R2 q⟩⟩, hx.le l1⟩, hx⟩
theorem d_chn {o o' : CmpOp} {k : Nat} (hr : Room k X.A) (ha : PE X a (DE (wd X T cls) Wx ca)) (hb : PE X b (DE (wd X T cls) Wx cb)) (hc : PE X c (DE (wd X T cls) Wx cc)) (hm : lastMarks [o, o'] [b, c] = false) :
    PE X (.Compare a [o, o'] [b, c] pos) (DE (wd X T cls) Wx (.chn o o' ca cb cc)) :=
  PE.weak (pe_chain (cmp_ok (T := T) (cls := cls) (by have := hr.un; omega)) (cmp_ok (T := T) (cls := cls) (by have := hr.un; omega)) ha hb hc hm) fun σ H Q h => by
    obtain ⟨S, δ, QM, QX, rfl, R, hE, hw, hq, hx⟩ := h
    simp only [wpE] at hw
    refine ⟨S, δ, _, QX, rfl, R, hE, hw, fun S1 d1 v1 l1 R1 r1 w1 => ⟨S1, δ, _, QX, rfl, R1, hE.mono l1.1, w1, fun S2 d2 v2 l2 R2 r2 w2 => ⟨S2, d1, d2, _, rfl, R2, r1.mono l2.1, r2, w2, fun r q => ⟨r, rfl, ?_⟩⟩, hx.le l1⟩, hx⟩
    try dsimp only at q ⊢
    cases r with
    | true =>
      rw [if_pos rfl] at q ⊢
      exact ⟨S2, δ, _, QX, rfl, R2, hE.mono (l1.trans l2).1, q, fun S3 d3 v3 l3 R3 r3 w3 => ⟨S3, d2, d3, _, rfl, R3, r2.mono l3.1, r3, w3, fun b q => hq S3 (.bl b) (.bl b) ((l1.trans l2).trans l3) R3 rfl q⟩, hx.le (l1.trans l2)⟩
    | false =>
      rw [if_neg Bool.false_ne_true] at q ⊢
      exact hq S2 (.bl false) _ (l1.trans l2) R2 rfl q
theorem t_chn {o o' : CmpOp} {k : Nat} (hr : Room k X.A) (ha : PE X a (DE (wd X T cls) Wx ca)) (hb : PE X b (DE (wd X T cls) Wx cb)) (hc : PE X c (DE (wd X T cls) Wx cc)) (hm : lastMarks [o, o'] [b, c] = false) :
    PT X (.Compare a [o, o'] [b, c] pos) (DT (wd X T cls) Wx (.chn o o' ca cb cc)) :=
  PT.weak (pt_chain (cmp_ok (T := T) (cls := cls) (by have := hr.un; omega)) (cmp_ok (T := T) (cls := cls) (by have := hr.un; omega)) ha hb hc hm) fun σ H Q h => by
    obtain ⟨S, δ, QM, QX, rfl, R, hE, hw, hq, hx⟩ := h
    simp only [wpT] at hw
    refine ⟨S, δ, _, QX, rfl, R, hE, hw, fun S1 d1 v1 l1 R1 r1 w1 => ⟨S1, δ, _, QX, rfl, R1, hE.mono l1.1, w1, fun S2 d2 v2 l2 R2 r2 w2 => ⟨S2, d1, d2, _, rfl, R2, r1.mono l2.1, r2, w2, fun r q => ⟨r, rfl, ?_⟩⟩, hx.le l1⟩, hx⟩
    try dsimp only at q ⊢
    cases r with
    | true =>
      rw [if_pos rfl] at q ⊢
      exact ⟨S2, δ, _, QX, rfl, R2, hE.mono (l1.trans l2).1, q, fun S3 d3 v3 l3 R3 r3 w3 => ⟨S3, d2, d3, _, rfl, R3, r2.mono l3.1, r3, w3, fun b q => ⟨b, rfl, hq S3 b ((l1.trans l2).trans l3) R3 q⟩⟩, hx.le (l1.trans l2)⟩
    | false =>
      rw [if_neg Bool.false_ne_true] at q ⊢
      exact ⟨false, rfl, hq S2 false (l1.trans l2) R2 q⟩
theorem d_one {op : BoolOp} (ha : PE X a (DE (wd X T cls) Wx ca)) : PE X (.BoolOp op [a] pos) (DE (wd X T cls) Wx (.one ca)) :=
  PE.weak (pe_one ha) fun σ H Q h => by
    obtain ⟨S, δ, QM, QX, rfl, R, hE, hw, hq, hx⟩ := h
    simp only [wpE] at hw
    exact ⟨S, δ, QM, QX, rfl, R, hE, hw, hq, hx⟩
variable {es : List Expr}
theorem d_and (ha : PE X a (DE (wd X T cls) Wx ca)) (hb : PE X (.BoolOp .And (b :: es) pos) (DE (wd X T cls) Wx cb)) : PE X (.BoolOp .And (a :: b :: es) pos) (DE (wd X T cls) Wx (.andV ca cb)) :=
  PE.weak (pe_and ha hb) fun σ H Q h => by
    obtain ⟨S, δ, QM, QX, rfl, R, hE, hw, hq, hx⟩ := h
    simp only [wpE] at hw
    refine ⟨S, δ, _, QX, rfl, R, hE, hw, fun S1 d1 v1 l1 R1 r1 w1 => ?_, hx⟩
    dsimp only at w1 ⊢
    split at w1
    · rename_i k
      refine ⟨k, r1, ?_⟩
      cases k with
      | true =>
        rw [if_pos rfl] at w1 ⊢
        exact ⟨S1, δ, QM, QX, rfl, R1, hE.mono l1.1, w1, hq.le l1, hx.le l1⟩
      | false =>
        rw [if_neg Bool.false_ne_true] at w1 ⊢
        exact hq S1 (.bl false) _ l1 R1 rfl w1
    · exact w1.elim
theorem d_or (ha : PE X a (DE (wd X T cls) Wx ca)) (hb : PE X (.BoolOp .Or (b :: es) pos) (DE (wd X T cls) Wx cb)) : PE X (.BoolOp .Or (a :: b :: es) pos) (DE (wd X T cls) Wx (.orV ca cb)) :=
  PE.weak (pe_or ha hb) fun σ H Q h => by
    obtain ⟨S, δ, QM, QX, rfl, R, hE, hw, hq, hx⟩ := h
    simp only [wpE] at hw
    refine ⟨S, δ, _, QX, rfl, R, hE, hw, fun S1 d1 v1 l1 R1 r1 w1 => ?_, hx⟩
    dsimp only at w1 ⊢
    split at w1
    · rename_i k
      refine ⟨k, r1, ?_⟩
      cases k with
      | true =>
        rw [if_pos rfl] at w1 ⊢
        exact hq S1 (.bl true) _ l1 R1 rfl w1
      | false =>
        rw [if_neg Bool.false_ne_true] at w1 ⊢
        exact ⟨S1, δ, QM, QX, rfl, R1, hE.mono l1.1, w1, hq.le l1, hx.le l1⟩
    · exact w1.elim
theorem d_not (ha : PE X a (DE (wd X T cls) Wx ca)) : PE X (.UnaryOp .Not a pos) (DE (wd X T cls) Wx (.notV ca)) :=
  PE.weak (pe_not ha) fun σ H Q h => by
    obtain ⟨S, δ, QM, QX, rfl, R, hE, hw, hq, hx⟩ := h
    simp only [wpE] at hw
    refine ⟨S, δ, _, QX, rfl, R, hE, hw, fun S1 d1 v1 l1 R1 r1 w1 => ?_, hx⟩
    dsimp only at w1 ⊢
    split at w1
    · exact ⟨_, r1, hq S1 (.bl _) _ l1 R1 rfl w1⟩
    · exact w1.elim
theorem d_ife (hc : PT X c (DT (wd X T cls) Wx cc)) (ha : PE X a (DE (wd X T cls) Wx ca)) (hb : PE X b (DE (wd X T cls) Wx cb)) : PE X (.IfExp c a b pos) (DE (wd X T cls) Wx (.ife cc ca cb)) :=
  PE.weak (pe_ifExp hc ha hb) fun σ H Q h => by
    obtain ⟨S, δ, QM, QX, rfl, R, hE, hw, hq, hx⟩ := h
    simp only [wpE] at hw
    refine ⟨S, δ, _, QX, rfl, R, hE, hw, fun S1 k l1 R1 w1 => ?_, hx⟩
    dsimp only at w1 ⊢
    cases k with
    | true =>
      rw [if_pos rfl] at w1 ⊢
      exact ⟨S1, δ, QM, QX, rfl, R1, hE.mono l1.1, w1, hq.le l1, hx.le l1⟩
    | false =>
      rw [if_neg Bool.false_ne_true] at w1 ⊢
      exact ⟨S1, δ, QM, QX, rfl, R1, hE.mono l1.1, w1, hq.le l1, hx.le l1⟩
theorem d_ix {k : Nat} (hr : Room k X.A) (ha : PE X a (DE (wd X T cls) Wx ca)) (hb : PE X b (DE (wd X T cls) Wx cb)) (hs : PlainIx b) : PE X (.Subscript a b pos) (DE (wd X T cls) Wx (.ix ca cb)) :=
  PE.weak (pe_ix (ix_ok (T := T) (cls := cls) (by have := hr.un; omega)) ha hb hs) fun σ H Q h => by
    obtain ⟨S, δ, QM, QX, rfl, R, hE, hw, hq, hx⟩ := h
    simp only [wpE] at hw
    exact ⟨S, δ, _, QX, rfl, R, hE, hw, fun S1 d1 v1 l1 R1 r1 w1 => ⟨S1, δ, _, QX, rfl, R1, hE.mono l1.1, w1, fun S2 d2 v2 l2 R2 r2 w2 => ⟨S2, d1, d2, QM, rfl, R2, r1.mono l2.1, r2, w2, hq.le (l1.trans l2)⟩, hx.le l1⟩, hx⟩
theorem d_onone : PO X none (DO (wd X T cls) Wx .nop) :=
  PO.weak po_none fun σ H Q h => by
    obtain ⟨S, δ, QM, QX, rfl, R, hE, hw, hq, hx⟩ := h
    exact hq S none (.refl _) R hw
theorem d_osome (hn : ca ≠ .nop) (ha : PE X a (DE (wd X T cls) Wx ca)) : PO X (some a) (DO (wd X T cls) Wx ca) :=
  PO.weak (po_some ha) fun σ H Q h => by
    obtain ⟨S, δ, QM, QX, rfl, R, hE, hw, hq, hx⟩ := h
    have hw2 : wpE ca δ S.μ (fun d μ' => match d with | .int i => QM (some i) μ' | _ => False) QX := by
      unfold wpOpt at hw
      split at hw
      · exact absurd rfl hn
      · exact hw
    refine ⟨S, δ, _, QX, rfl, R, hE, hw2, fun S1 d1 v1 l1 R1 r1 w1 => ?_, hx⟩
    dsimp only at w1 ⊢
    split at w1
    · exact ⟨_, r1, hq S1 _ l1 R1 w1⟩
    · exact w1.elim
variable {lo hi : Option Expr} {cl ch : IR} {p2 : Pos}
theorem d_sl (ha : PE X a (DE (wd X T cls) Wx ca)) (hl : PO X lo (DO (wd X T cls) Wx cl)) (hh : PO X hi (DO (wd X T cls) Wx ch)) : PE X (.Subscript a (.Slice lo hi none p2) pos) (DE (wd X T cls) Wx (.sl ca cl ch)) :=
  PE.weak (pe_slice (sl_ok (T := T) (cls := cls)) ha hl hh) fun σ H Q h => by
    obtain ⟨S, δ, QM, QX, rfl, R, hE, hw, hq, hx⟩ := h
    simp only [wpE] at hw
    exact ⟨S, δ, _, QX, rfl, R, hE, hw, fun S1 d1 v1 l1 R1 r1 w1 => ⟨S1, δ, _, QX, rfl, R1, hE.mono l1.1, w1, fun S2 o2 l2 R2 w2 => ⟨S2, δ, _, QX, rfl, R2, hE.mono (l1.trans l2).1, w2, fun S3 o3 l3 R3 w3 =>
      ⟨S3, d1, QM, rfl, R3, r1.mono (l2.trans l3).1, w3, hq.le ((l1.trans l2).trans l3)⟩, hx.le (l1.trans l2)⟩, hx.le l1⟩, hx⟩

/-! ### argument lists, displays, calls -/
theorem d_anil : PA X [] (DA (wd X T cls) Wx .nil) :=
  PA.weak pa_nil fun σ H Q h => by
    obtain ⟨S, δ, QM, QX, rfl, R, hE, hw, hq, hx⟩ := h
    simp only [wpA] at hw
    exact hq S [] [] (.refl _) R rfl hw
theorem d_acons (ha : PE X a (DE (wd X T cls) Wx ca)) (hb : PA X es (DA (wd X T cls) Wx cb)) (hs : starEach (a :: es) X.env = (false, eval a X.env) :: starEach es X.env) : PA X (a :: es) (DA (wd X T cls) Wx (.cons ca cb)) :=
  PA.weak (pa_cons ha hb hs) fun σ H Q h => by
    obtain ⟨S, δ, QM, QX, rfl, R, hE, hw, hq, hx⟩ := h
    simp only [wpA] at hw
    exact ⟨S, δ, _, QX, rfl, R, hE, hw, fun S1 d1 v1 l1 R1 r1 w1 => ⟨S1, δ, _, QX, rfl, R1, hE.mono l1.1, w1, fun S2 ds vs l2 R2 r2 w2 => hq S2 (d1 :: ds) (v1 :: vs) (l1.trans l2) R2 ⟨v1, vs, rfl, r1.mono l2.1, r2⟩ w2, hx.le l1⟩, hx⟩
theorem d_tup {k : Nat} (h : PA X es (DA (wd X T cls) Wx ca)) : PE X (.Tuple es k pos) (DE (wd X T cls) Wx (.tupC ca)) :=
  PE.weak (pe_tup h) fun σ H Q h => by
    obtain ⟨S, δ, QM, QX, rfl, R, hE, hw, hq, hx⟩ := h
    simp only [wpE] at hw
    exact ⟨S, δ, _, QX, rfl, R, hE, hw, fun S1 ds vs l1 R1 r1 w1 => ⟨by rw [r1.length]; exact w1.1, fresh_tup R1 r1 w1.2 (hq.le l1)⟩, hx⟩
theorem d_lst (h : PA X es (DA (wd X T cls) Wx ca)) : PE X (.List es pos) (DE (wd X T cls) Wx (.lstC ca)) :=
  PE.weak (pe_lst h) fun σ H Q h => by
    obtain ⟨S, δ, QM, QX, rfl, R, hE, hw, hq, hx⟩ := h
    simp only [wpE] at hw
    exact ⟨S, δ, _, QX, rfl, R, hE, hw, fun S1 ds vs l1 R1 r1 w1 => ⟨by rw [r1.length]; exact w1.1, fresh_lst R1 r1 w1.2 (hq.le l1)⟩, hx⟩
theorem new_cell {W : Wd} {S : Ss} {p : Addr} {o : HO} {c : Cell} (R : Rl W S) (hp : S.H p = none) (n : CellOk W ⟨hid S, newρ S.ρ S.μ.next p, S.μ.next + 1⟩ (upd S.H p o) p c) :
    Ss.le S { S with ρ := newρ S.ρ S.μ.next p, μ := S.μ.new c, H := upd S.H p o } ∧ Rl W { S with ρ := newρ S.ρ S.μ.next p, μ := S.μ.new c, H := upd S.H p o } :=
  R.new hp (fun a ha _ => upd_ne ha) (fun a u h => by
    have h1 := hid_ex h
    rw [upd_ne (ne_of_none h1 hp)]
    exact h1) n
theorem vw_new {S : Ss} {p : Addr} (n : Nat) (hn : n = S.μ.next) : S.vw.le ⟨hid S, newρ S.ρ n p, n + 1⟩ := by
  subst hn
  exact ⟨Ext.refl _, fun k hk => newρ_ne (Nat.ne_of_lt hk), Nat.le_succ _⟩
theorem d_lstM (h : PA X es (DA (wd X T cls) Wx ca)) : PE X (.List es pos) (DE (wd X T cls) Wx (.lstM ca)) :=
  PE.weak (pe_lst h) fun σ H Q h => by
    obtain ⟨S, δ, QM, QX, rfl, R, hE, hw, hq, hx⟩ := h
    simp only [wpE] at hw
    refine ⟨S, δ, _, QX, rfl, R, hE, hw, fun S1 ds vs l1 R1 r1 w1 => ⟨by rw [r1.length]; exact w1.1, fun p hp => ?_⟩, hx⟩
    obtain ⟨l, R2⟩ := new_cell (c := .lst ds) (o := .lst vs) R1 hp ⟨vs, upd_same, r1.mono (vw_new _ rfl)⟩
    exact hq _ (.obj S1.μ.next) _ (l1.trans l) R2 ⟨Nat.lt_succ_self _, by show V.ref p = .ref (newρ S1.ρ S1.μ.next p S1.μ.next); rw [newρ_same]⟩ w1.2
theorem d_frz (ha : PE X a (DE (wd X T cls) Wx ca)) : PE X a (DE (wd X T cls) Wx (.frz ca)) :=
  PE.weak ha fun σ H Q h => by
    obtain ⟨S, δ, QM, QX, rfl, R, hE, hw, hq, hx⟩ := h
    simp only [wpE] at hw
    refine ⟨S, δ, _, QX, rfl, R, hE, hw, fun S1 d1 v1 l1 R1 r1 w1 => ?_, hx⟩
    dsimp only at w1 ⊢
    split at w1
    · rename_i k
      split at w1
      · rename_i ds e
        obtain ⟨xs, e1, r2⟩ := R1.ok _ _ e
        obtain ⟨l2, R2⟩ := R1.del (k := k)
        refine hq { S1 with μ := S1.μ.del k } (.lst ds) v1 (l1.trans l2) R2 ⟨S1.ρ k, xs, r1.2, hid_some.mpr ⟨e1, ?_⟩, r2.mono l2.1⟩ w1
        rintro (⟨j, d, h1, h2⟩ | ⟨o, h1⟩)
        · have h1 : (S1.μ.del k).cell j = some d := h1
          by_cases hj : j = k
          · rw [hj, Sto.del_same] at h1
            cases h1
          · rw [Sto.del_ne hj] at h1
            exact hj (R1.inj j k d _ h1 e h2)
        · exact (R1.prv _ o h1).2 k _ e rfl
      · exact w1.elim
    · exact w1.elim
/-- what a call, by values, does -/
def RCd (W : Wd) (Wx : WX) (σ : L2.St) (sp : Spec) : List V → Hp → VK → Prop := fun vs H Q => ∃ S ds QM QX, S.H = H ∧ Rl W S ∧ Reps W.K S.vw ds vs ∧ sp ds S.μ QM QX ∧ After W S QM Q ∧ AfterX W S QX (WE Wx σ)

/-! ### tests -/
theorem t_val (ha : PE X a (DE (wd X T cls) Wx ca)) (he : ∀ whole, isTrue a X.env whole = (do let v ← whole; standAt a.pos; holding [v] (truthy v))) : PT X a (DT (wd X T cls) Wx (.tV ca)) :=
  PT.weak (pt_truth ha he) fun σ H Q h => by
    obtain ⟨S, δ, QM, QX, rfl, R, hE, hw, hq, hx⟩ := h
    simp only [wpT] at hw
    refine ⟨S, δ, _, QX, rfl, R, hE, hw, fun S1 d1 v1 l1 R1 r1 w1 => ?_, hx⟩
    obtain ⟨k, hk, q⟩ := tru_rep R1 r1 w1
    exact ⟨k, hk, hq S1 k l1 R1 q⟩
theorem t_not (h : PT X a (DT (wd X T cls) Wx ca)) : PT X (.UnaryOp .Not a pos) (DT (wd X T cls) Wx (.tNot ca)) :=
  PT.weak (pt_not h) fun σ H Q h => by
    obtain ⟨S, δ, QM, QX, rfl, R, hE, hw, hq, hx⟩ := h
    simp only [wpT] at hw
    exact ⟨S, δ, _, QX, rfl, R, hE, hw, fun S1 k l1 R1 w1 => hq S1 (!k) l1 R1 w1, hx⟩
theorem t_and1 (h : PT X a (DT (wd X T cls) Wx ca)) : PW X (.BoolOp .And [a] pos) (DT (wd X T cls) Wx (.tOne ca)) :=
  PW.weak (pw_and1 h) fun σ H Q h => by
    obtain ⟨S, δ, QM, QX, rfl, R, hE, hw, hq, hx⟩ := h
    simp only [wpT] at hw
    exact ⟨S, δ, QM, QX, rfl, R, hE, hw, hq, hx⟩
theorem t_or1 (h : PT X a (DT (wd X T cls) Wx ca)) : PW X (.BoolOp .Or [a] pos) (DT (wd X T cls) Wx (.tOne ca)) :=
  PW.weak (pw_or1 h) fun σ H Q h => by
    obtain ⟨S, δ, QM, QX, rfl, R, hE, hw, hq, hx⟩ := h
    simp only [wpT] at hw
    exact ⟨S, δ, QM, QX, rfl, R, hE, hw, hq, hx⟩
theorem t_and (h : PT X a (DT (wd X T cls) Wx ca)) (hb : PW X (.BoolOp .And (b :: es) pos) (DT (wd X T cls) Wx cb)) : PW X (.BoolOp .And (a :: b :: es) pos) (DT (wd X T cls) Wx (.tAnd ca cb)) :=
  PW.weak (pw_and h hb) fun σ H Q h => by
    obtain ⟨S, δ, QM, QX, rfl, R, hE, hw, hq, hx⟩ := h
    simp only [wpT] at hw
    refine ⟨S, δ, _, QX, rfl, R, hE, hw, fun S1 k l1 R1 w1 => ?_, hx⟩
    dsimp only at w1 ⊢
    cases k with
    | true =>
      rw [if_pos rfl] at w1 ⊢
      exact ⟨S1, δ, QM, QX, rfl, R1, hE.mono l1.1, w1, hq.le l1, hx.le l1⟩
    | false =>
      rw [if_neg Bool.false_ne_true] at w1 ⊢
      exact hq S1 false l1 R1 w1
theorem t_or (h : PT X a (DT (wd X T cls) Wx ca)) (hb : PW X (.BoolOp .Or (b :: es) pos) (DT (wd X T cls) Wx cb)) : PW X (.BoolOp .Or (a :: b :: es) pos) (DT (wd X T cls) Wx (.tOr ca cb)) :=
  PW.weak (pw_or h hb) fun σ H Q h => by
    obtain ⟨S, δ, QM, QX, rfl, R, hE, hw, hq, hx⟩ := h
    simp only [wpT] at hw
    refine ⟨S, δ, _, QX, rfl, R, hE, hw, fun S1 k l1 R1 w1 => ?_, hx⟩
    dsimp only at w1 ⊢
    cases k with
    | true =>
      rw [if_pos rfl] at w1 ⊢
      exact hq S1 true l1 R1 w1
    | false =>
      rw [if_neg Bool.false_ne_true] at w1 ⊢
      exact ⟨S1, δ, QM, QX, rfl, R1, hE.mono l1.1, w1, hq.le l1, hx.le l1⟩
end
end M
end

section
set_option Elab.async false
set_option linter.all false
set_option maxRecDepth 100000
set_option maxHeartbeats 4000000
/-! M: what is walked, targets, statements, comprehensions. -/
namespace M
open PySem PySem.Spec PyProof.Rows L2

section
variable {X : Cx} {T : List Addr} {cls : Nat → Addr} {Wx : WX}
variable {a b c : Expr} {ca cb cc : IR} {pos : Pos} {es : List Expr} {tg : Expr}

/-! ### what is walked -/
theorem iter_list {W : Wd} {p : Addr} {ds : List D} {gd : Sto → Prop} {S0 : Ss} (h : ∀ S, S0.vw.le S.vw → Rl W S → gd S.μ → ∃ xs, SqL W.K S.H p xs ∧ Reps W.K S.vw ds xs) : IterD W (Itl W.K p) ds gd S0 := fun S l R g => by
  obtain ⟨xs, hs, hr⟩ := h S l R g
  refine ⟨⟨xs, hs, Nat.le_of_eq hr.length⟩, fun i hi => ⟨⟨xs, xs[i]'(by rw [hr.length]; exact hi), hs, List.getElem?_eq_getElem _⟩, fun x H' y => ?_⟩⟩
  obtain ⟨e, y⟩ := y
  obtain ⟨d, ed, rd⟩ := hr.get' (y xs hs)
  exact ⟨S, d, .refl _, R, e.symm, rfl, ed, rd⟩
theorem iter_tup {W : Wd} {p : Addr} {ds : List D} {gd : Sto → Prop} {S0 : Ss} (h : ∀ S, S0.vw.le S.vw → Rl W S → gd S.μ → ∃ xs, SqT W.K S.H p xs ∧ Reps W.K S.vw ds xs) : IterD W (Itt W.K p) ds gd S0 := fun S l R g => by
  obtain ⟨xs, hs, hr⟩ := h S l R g
  refine ⟨⟨xs, hs, Nat.le_of_eq hr.length⟩, fun i hi => ⟨⟨xs, xs[i]'(by rw [hr.length]; exact hi), hs, List.getElem?_eq_getElem _⟩, fun x H' y => ?_⟩⟩
  obtain ⟨e, y⟩ := y
  obtain ⟨d, ed, rd⟩ := hr.get' (y xs hs)
  exact ⟨S, d, .refl _, R, e.symm, rfl, ed, rd⟩
theorem intsD_length (lo : Int) (n : Nat) : (intsD lo n).length = n := by unfold intsD; rw [List.length_map, List.length_range]
theorem intsD_get {lo : Int} {n i : Nat} (h : i < n) : (intsD lo n)[i]? = some (.int (lo + i)) := by
  unfold intsD
  rw [List.getElem?_map, List.getElem?_range h]
  rfl
theorem iter_rng {W : Wd} {lo : Int} {n : Nat} {gd : Sto → Prop} {S0 : Ss} : IterD W (Itr lo n) (intsD lo n) gd S0 := fun S l R g => by
  rw [intsD_length]
  refine ⟨Nat.le_refl n, fun i hi => ⟨hi, fun x H' y => ?_⟩⟩
  obtain ⟨e, y⟩ := y
  exact ⟨S, .int (lo + i), .refl _, R, e.symm, rfl, intsD_get hi, y⟩
theorem iter_str {W : Wd} {z : Str} {gd : Sto → Prop} {S0 : Ss} : IterD W (Its z) (z.cps.toList.map fun c => D.str ⟨#[c]⟩) gd S0 := fun S l R g => by
  rw [List.length_map]
  refine ⟨?_, fun i hi => ⟨?_, fun x H' y => ?_⟩⟩
  · show z.cps.size ≤ z.cps.toList.length
    rw [Array.length_toList]
    exact Nat.le_refl _
  · show i < z.cps.size
    rw [Array.length_toList] at hi
    exact hi
  · obtain ⟨e, c, hc, y⟩ := y
    refine ⟨S, .str ⟨#[c]⟩, .refl _, R, e.symm, rfl, ?_, y⟩
    rw [List.getElem?_map, Array.getElem?_toList, hc]
    rfl
def iAny (K : PySem.W.Frag) (tl : TE) : TI := fun σ H R => tl σ H fun x H1 =>
  (∃ a, x = .ref a ∧ (∃ xs, SqL K H1 a xs) ∧ R (Itl K a) H1) ∨ (∃ a, x = .ref a ∧ (∃ xs, SqT K H1 a xs) ∧ R (Itt K a) H1) ∨ ∃ z, x = .str z ∧ R (Its z) H1
theorem pi_any {l : Expr} {tl : TE} (hl : PE X l tl) : PI X tg l (iAny X.K tl) := by
  refine ⟨fun pins s σ H R I h => ?_⟩
  refine thn (hl.run pins s σ H _ I h) fun v s1 ⟨x, H1, I1, r1, q1⟩ => ?_
  have lt : ∀ b ∈ [s1.heap.objs.size], FpOk X pins H1 b := fun b hb => by
    have e : b = s1.heap.objs.size := by simpa using hb
    subst e
    exact I1.fpOk (Nat.le_refl _) (I1.hok.fresh (Nat.le_refl _))
  rcases q1 with ⟨a, e, ⟨xs, hq⟩, q⟩ | ⟨a, e, ⟨xs, hq⟩, q⟩ | ⟨z, e, q⟩
  · subst e
    cases r1
    obtain ⟨its, rv, p, hz⟩ := I1.list hq
    refine wpAny_pyIter_list p.isList ?_
    exact ⟨s1.heap.objs.size, [s1.heap.objs.size], _, _, H1, rfl, I1.kept (t' := s1.toks) fun b o e => Heap.get?_push_of_some _ e, turn_list a _, ⟨_, Heap.get?_push_size _ rfl, rfl, rfl⟩, lt, q⟩
  · subst e
    cases r1
    obtain ⟨its, rv, p, hz⟩ := I1.tuple hq
    refine wpAny_pyIter_tuple (show s1.heap.IsTuple a its.toArray from p) ?_
    exact ⟨s1.heap.objs.size, [s1.heap.objs.size], _, _, H1, rfl, I1.kept (t' := s1.toks) fun b o e => Heap.get?_push_of_some _ e, turn_tuple a _, ⟨_, Heap.get?_push_size _ rfl, rfl, rfl⟩, lt, q⟩
  · subst e
    obtain ⟨t, rfl⟩ := r1
    cases ha : z.cps.all (· < 128)
    · exact wpAny_pyIter_wide ha (pi_one (tk := s1.toks) I1 _ (turn_str _ z t "str_iterator" (.inr rfl)) ⟨_, Heap.get?_push_size _ rfl, rfl, rfl⟩ q)
    · exact wpAny_pyIter_ascii ha (pi_one (tk := s1.toks) I1 _ (turn_str _ z t "str_ascii_iterator" (.inl rfl)) ⟨_, Heap.get?_push_size _ rfl, rfl, rfl⟩ q)
theorem i_val (ha : PE X a (DE (wd X T cls) Wx ca)) : PI X tg a (DI (wd X T cls) Wx (.itV ca)) :=
  PI.weak (pi_any ha) fun σ H KR h => by
    obtain ⟨S, δ, KI, QX, rfl, R, hE, hw, hq, hx⟩ := h
    simp only [wpI] at hw
    refine ⟨S, δ, _, QX, rfl, R, hE, hw, fun S1 d1 v1 l1 R1 r1 w1 => ?_, hx⟩
    dsimp only at w1 ⊢
    unfold itD at w1
    split at w1
    · obtain ⟨p, xs, e, s, rr⟩ := r1
      exact .inr (.inl ⟨p, e, ⟨xs, hid_ext.sqt s⟩, hq S1 _ _ _ l1 R1 (iter_tup fun S2 l2 R2 _ => ⟨xs, hid_ext.sqt (l2.1.sqt s), rr.mono l2⟩) w1⟩)
    · obtain ⟨p, xs, e, s, rr⟩ := r1
      exact .inl ⟨p, e, ⟨xs, SqL.of (hid_ex s)⟩, hq S1 _ _ _ l1 R1 (iter_list fun S2 l2 R2 _ => ⟨xs, SqL.of (hid_ex (l2.1.at s fun _ z => by cases z)), rr.mono l2⟩) w1⟩
    · obtain ⟨p, xs, e, s, rr⟩ := r1
      exact .inl ⟨p, e, ⟨xs, hid_ext.sql s⟩, hq S1 _ _ _ l1 R1 (iter_list fun S2 l2 R2 _ => ⟨xs, hid_ext.sql (l2.1.sql s), rr.mono l2⟩) w1⟩
    · exact .inr (.inr ⟨_, r1, hq S1 _ _ _ l1 R1 iter_str w1⟩)
    · rename_i k
      split at w1
      · rename_i ds e
        obtain ⟨xs, e1, rr⟩ := R1.ok _ _ e
        refine .inl ⟨S1.ρ k, r1.2, ⟨xs, SqL.of e1⟩, hq S1 _ _ _ l1 R1 (iter_list fun S2 l2 R2 g => ?_) w1⟩
        obtain ⟨ys, e2, r2⟩ := R2.ok _ _ g
        refine ⟨ys, SqL.of ?_, r2⟩
        have := l2.2.1 k r1.1
        rw [show S2.ρ k = S1.ρ k from this] at e2
        exact e2
      · exact w1.elim
    · exact w1.elim
theorem i_rng1 {p : Pos} (hg : Gl X "range") (hm : X.mg "range" = none) (ha : PE X a (DE (wd X T cls) Wx ca)) (hs : starEach [a] X.env = [(false, eval a X.env)]) :
    PI X tg (.Call (.Name "range" p) [a] [] pos) (DI (wd X T cls) Wx (.itR1 ca)) :=
  PI.weak (pi_range1 hg hm (pa_cons ha pa_nil hs) hs) fun σ H KR h => by
    obtain ⟨S, δ, KI, QX, rfl, R, hE, hw, hq, hx⟩ := h
    simp only [wpI] at hw
    refine ⟨S, δ, _, QX, rfl, R, hE, hw, fun S1 d1 v1 l1 R1 r1 w1 => ?_, hx⟩
    dsimp only at w1 ⊢
    split at w1
    · rename_i n
      exact ⟨n, by rw [show v1 = _ from r1], w1.1, w1.2.1, hq S1 _ _ _ l1 R1 iter_rng w1.2.2⟩
    · exact w1.elim
theorem i_rng2 {p : Pos} (hg : Gl X "range") (hm : X.mg "range" = none) (ha : PE X a (DE (wd X T cls) Wx ca)) (hb : PE X b (DE (wd X T cls) Wx cb)) (hs : starEach [a, b] X.env = [(false, eval a X.env), (false, eval b X.env)]) (hs2 : starEach [b] X.env = [(false, eval b X.env)]) :
    PI X tg (.Call (.Name "range" p) [a, b] [] pos) (DI (wd X T cls) Wx (.itR2 ca cb)) :=
  PI.weak (pi_range2 hg hm (pa_cons ha (pa_cons hb pa_nil hs2) (by rw [hs, hs2])) hs hs2) fun σ H KR h => by
    obtain ⟨S, δ, KI, QX, rfl, R, hE, hw, hq, hx⟩ := h
    simp only [wpI] at hw
    refine ⟨S, δ, _, QX, rfl, R, hE, hw, fun S1 d1 v1 l1 R1 r1 w1 => ⟨S1, δ, _, QX, rfl, R1, hE.mono l1.1, w1, fun S2 d2 v2 l2 R2 r2 w2 => ?_, hx.le l1⟩, hx⟩
    dsimp only at w2 ⊢
    split at w2
    · rename_i i j
      have e1 : v1 = .int i := r1
      have e2 : v2 = .int j := r2
      subst e1 e2
      exact ⟨i, j, rfl, w2.1, hq S2 _ _ _ (l1.trans l2) R2 iter_rng w2.2⟩
    · exact w2.elim

/-! ### targets -/
theorem g_name {i : Nat} {x : Str} (hN : X.N.Nodup) (hi : X.N[i]? = some x) (hx : Loc X.env.scope x) (hf : X.fn x = true ∨ X.env.scope.names.lookup x = some .local) : PG X (.Name x pos) (DG (wd X T cls) (.gN i)) :=
  PG.weak (pg_name hN hi hx hf) fun v σ H Q h => by
    obtain ⟨S, δ, d, QG, rfl, R, hE, r, hw, hq⟩ := h
    simp only [wpG] at hw
    refine hq S _ _ (.refl _) R (hE.set r) ⟨List.length_set .., fun j hj => ?_⟩ hw
    exact List.getElem?_set_ne (by simpa [slotsG] using fun z => hj (by simp [slotsG, z]))
theorem gs_nil : PGs X [] (DGs (wd X T cls) .nil) :=
  PGs.weak pgs_nil fun v σ H Q h => by
    obtain ⟨S, δ, ds, QG, rfl, R, hE, r, hw, hq⟩ := h
    simp only [wpGs] at hw
    obtain ⟨rfl, hw⟩ := hw
    exact ⟨r, hq S δ σ (.refl _) R hE ⟨rfl, fun _ _ => rfl⟩ hw⟩
theorem gs_cons {cg cr : IR} (h1 : PG X a (DG (wd X T cls) cg)) (h2 : PGs X es (DGs (wd X T cls) cr)) (hs : (assignEach (a :: es) X.env).map (·.2) = assign a X.env :: (assignEach es X.env).map (·.2)) : PGs X (a :: es) (DGs (wd X T cls) (.cons cg cr)) :=
  PGs.weak (pgs_cons h1 h2 hs) fun v σ H Q h => by
    obtain ⟨S, δ, ds, QG, rfl, R, hE, r, hw, hq⟩ := h
    simp only [wpGs] at hw
    split at hw
    · rename_i d ds
      obtain ⟨x, xr, rfl, rx, rr⟩ := r
      refine ⟨x, xr, rfl, S, δ, d, _, rfl, R, hE, rx, hw, fun S1 δ1 σ1 l1 R1 E1 a1 w1 => ⟨S1, δ1, ds, QG, rfl, R1, E1, rr.mono l1.1, w1, fun S2 δ2 σ2 l2 R2 E2 a2 w2 => hq S2 δ2 σ2 (l1.trans l2) R2 E2 ⟨a2.1.trans a1.1, fun j hj => ?_⟩ w2⟩⟩
      simp only [slotsG, List.mem_append, not_or] at hj
      exact (a2.2 j hj.2).trans (a1.2 j hj.1)
    · exact hw.elim
theorem pg_or {e : Expr} {g1 g2 : TG} (h1 : PG X e g1) (h2 : PG X e g2) : PG X e (fun v σ H Q => g1 v σ H Q ∨ g2 v σ H Q) := by
  refine ⟨fun pins s σ H v u Q I r hw => ?_⟩
  rcases hw with hw | hw
  · exact h1.run pins s σ H v u Q I r hw
  · exact h2.run pins s σ H v u Q I r hw
theorem g_tup {k n : Nat} {cg : IR} (hc : X.calm = true) (h : PGs X es (DGs (wd X T cls) cg)) (hn : (assignEach es X.env).length = n) (hst : (assignEach es X.env).findIdx? (·.1) = none) : PG X (.Tuple es k pos) (DG (wd X T cls) (.gT n cg)) :=
  PG.weak (pg_or (pg_tup hc h hn hst) (pg_unl hc h hn hst)) fun v σ H Q h => by
    obtain ⟨S, δ, d, QG, rfl, R, hE, r, hw, hq⟩ := h
    simp only [wpG] at hw
    split at hw
    · rename_i ds e
      obtain ⟨p, xs, rfl, g, rr⟩ := asSeq_rep R r e
      rcases g with g | g
      · exact .inr ⟨p, xs, rfl, g, by rw [rr.length]; exact hw.1, S, δ, ds, QG, rfl, R, hE, rr, hw.2, fun S1 δ1 σ1 l1 R1 E1 a1 w1 => hq S1 δ1 σ1 l1 R1 E1 a1 w1⟩
      · exact .inl ⟨p, xs, rfl, g, by rw [rr.length]; exact hw.1, S, δ, ds, QG, rfl, R, hE, rr, hw.2, fun S1 δ1 σ1 l1 R1 E1 a1 w1 => hq S1 δ1 σ1 l1 R1 E1 a1 w1⟩
    · exact hw.elim
theorem set_or {r q : TSet} (h : PSet X r) (g : PSet X q) : PSet X (fun o i v H Q => r o i v H Q ∨ q o i v H Q) := by
  intro pins s σ H o i v ov iv u Q I ro ri rv hh
  rcases hh with hh | hh
  · exact h pins s σ H o i v ov iv u Q I ro ri rv hh
  · exact g pins s σ H o i v ov iv u Q I ro ri rv hh
theorem g_sub {k : Nat} (hr : Room k X.A) (ha : PE X a (DE (wd X T cls) Wx ca)) (hb : PE X b (DE (wd X T cls) Wx cb)) (hs : ∀ v, assign (.Subscript a b pos) X.env v = (do
      let ov ← holding [v] (eval a X.env)
      let iv ← holding [v, ov] (eval b X.env)
      standAt pos
      holding [v, ov, iv] (setItem ov iv v)
      release [v, ov, iv] [])) : PG X (.Subscript a b pos) (DG (wd X T cls) (.gSub ca cb)) :=
  PG.weak (pg_sub ha hb (set_or set_list (set_dict (by have := hr.un; omega))) hs) fun v σ H Q h => by
    obtain ⟨S, δ, d, QG, rfl, R, hE, r, hw, hq⟩ := h
    simp only [wpG] at hw
    refine ⟨S, δ, _, _, rfl, R, hE, hw, fun S1 d1 v1 l1 R1 r1 w1 => ⟨S1, δ, _, _, rfl, R1, hE.mono l1.1, w1, fun S2 d2 v2 l2 R2 r2 w2 => ?_, afx_no⟩, afx_no⟩
    dsimp only at w2 ⊢
    split at w2
    · rename_i k j
      split at w2
      · rename_i ds e
        split at w2
        · rename_i n en
          obtain ⟨xs, e1, rr⟩ := R2.ok _ _ e
          have rk := r1.mono l2.1
          have ej : v2 = .int j := r2
          subst ej
          obtain ⟨l3, R3⟩ := R2.put (k := k) (c' := .lst (ds.set n d)) (o := .lst (xs.set n v)) e ⟨_, upd_same, Reps.set n rr (r.mono (l1.trans l2).1)⟩
          exact .inl ⟨S2.ρ k, xs, j, n, rk.2, rfl, e1, by rw [rr.length]; exact en, hq _ _ σ ((l1.trans l2).trans l3) R3 (hE.mono ((l1.trans l2).trans l3).1) ⟨rfl, fun _ _ => rfl⟩ w2⟩
        · exact w2.elim
      · exact w2.elim
    · rename_i k y
      split at w2
      · rename_i kvs key e e4
        obtain ⟨es, e1, rr⟩ := R2.ok _ _ e
        have rk := r1.mono l2.1
        have := key_rep e4 r2
        subst this
        obtain ⟨l3, R3⟩ := R2.put (k := k) (c' := .dct (putD kvs key d)) (o := .dK (putK es key v)) e ⟨_, upd_same, RepP.put rr (r.mono (l1.trans l2).1)⟩
        exact .inr ⟨S2.ρ k, _, rk.2, DPut.k e1 (by rw [rr.len]; exact w2.1), hq _ _ σ ((l1.trans l2).trans l3) R3 (hE.mono ((l1.trans l2).trans l3).1) ⟨rfl, fun _ _ => rfl⟩ w2.2⟩
      · exact w2.elim
    · exact w2.elim

/-! ### locked dicts -/
theorem lckD_eq {δ : Env} {i k : Nat} {μ : Sto} {kvs : List (Key × D)} (h : lckD δ i μ = some (k, kvs)) : δ[i]? = some (some (.obj k)) ∧ μ.cell k = some (.dct kvs) := by
  unfold lckD at h
  split at h
  · rename_i j e
    split at h
    · rename_i c hc
      cases h
      exact ⟨e, hc⟩
    · cases h
  · cases h
theorem Rl.lock {W : Wd} {S : Ss} {k : Nat} {kvs : List (Key × D)} (R : Rl W S) (h : S.μ.cell k = some (.dct kvs)) : ∃ es, S.H (S.ρ k) = some (.dK es) ∧ ∀ od, Ss.le S { S with μ := S.μ.put k (.lck kvs od es), H := upd S.H (S.ρ k) (.frz od (.dK es)) } ∧ Rl W { S with μ := S.μ.put k (.lck kvs od es), H := upd S.H (S.ρ k) (.frz od (.dK es)) } := by
  obtain ⟨es, e1, r⟩ := R.ok _ _ h
  exact ⟨es, e1, fun od => R.put (c' := .lck kvs od es) (o := .frz od (.dK es)) h ⟨upd_same, r⟩⟩
theorem Rl.unlock {W : Wd} {S : Ss} {k : Nat} {kvs : List (Key × D)} {od : Obj} {es : List (Key × V)} (R : Rl W S) (h : S.μ.cell k = some (.lck kvs od es)) : S.H (S.ρ k) = some (.frz od (.dK es)) ∧ Ss.le S { S with μ := S.μ.put k (.dct kvs), H := upd S.H (S.ρ k) (.dK es) } ∧ Rl W { S with μ := S.μ.put k (.dct kvs), H := upd S.H (S.ρ k) (.dK es) } := by
  obtain ⟨e1, r⟩ := R.ok _ _ h
  have := R.put (c' := .dct kvs) (o := .dK es) h ⟨es, upd_same, r⟩
  exact ⟨e1, this.1, this.2⟩
theorem d_lkE {e : Expr} {i : Nat} {ce : IR} (he : PE X e (DE (wd X T cls) Wx ce)) : PE X e (DE (wd X T cls) Wx (.lkE i ce)) :=
  PE.weak (pe_lock he) fun σ H Q h => by
    obtain ⟨S, δ, QM, QX, rfl, R, hE, hw, hq, hx⟩ := h
    simp only [wpE] at hw
    split at hw
    · rename_i k kvs e1
      obtain ⟨e2, e3⟩ := lckD_eq e1
      have hk := R.lt _ _ e3
      obtain ⟨es, e4, lk⟩ := R.lock e3
      refine ⟨S.ρ k, .dK es, e4, trivial, fun od => ?_⟩
      obtain ⟨l1, R1⟩ := lk od
      refine ⟨_, δ, _, _, rfl, R1, hE.mono l1.1, hw od es, fun S2 d v l2 R2 r2 w2 => ?_, afx_no⟩
      have eρ : S2.ρ k = S.ρ k := (l1.trans l2).1.2.1 k hk
      obtain ⟨e5, l3, R3⟩ := R2.unlock w2.1
      rw [eρ] at e5
      refine ⟨e5, ?_⟩
      have := hq _ d v ((l1.trans l2).trans l3) R3 (r2.mono l3.1) w2.2
      dsimp only at this
      rw [eρ] at this
      exact this
    · exact hw.elim
theorem s_lkS {st : Stmt} {i : Nat} {cs : IR} (hs : PS X st (DS (wd X T cls) Wx cs)) : PS X st (DS (wd X T cls) Wx (.lkS i cs)) :=
  PS.weak (ps_lock hs) fun E σ H h => by
    obtain ⟨S, δ, O, rfl, R, hE, hw, C⟩ := h
    simp only [wpS] at hw
    split at hw
    · rename_i k kvs e1
      obtain ⟨e2, e3⟩ := lckD_eq e1
      have hk := R.lt _ _ e3
      obtain ⟨es, e4, lk⟩ := R.lock e3
      refine ⟨S.ρ k, .dK es, e4, trivial, fun od => ?_⟩
      obtain ⟨l1, R1⟩ := lk od
      have back : ∀ {S2 : Ss}, Ss.le { S with μ := S.μ.put k (.lck kvs od es), H := upd S.H (S.ρ k) (.frz od (.dK es)) } S2 → Rl (wd X T cls) S2 → S2.μ.cell k = some (.lck kvs od es) → S2.H (S.ρ k) = some (.frz od (.dK es)) ∧ S.le { S2 with μ := S2.μ.put k (.dct kvs), H := upd S2.H (S.ρ k) (.dK es) } ∧ S2.le { S2 with μ := S2.μ.put k (.dct kvs), H := upd S2.H (S.ρ k) (.dK es) } ∧ Rl (wd X T cls) { S2 with μ := S2.μ.put k (.dct kvs), H := upd S2.H (S.ρ k) (.dK es) } := fun {S2} l2 R2 hc => by
        have eρ : S2.ρ k = S.ρ k := (l1.trans l2).1.2.1 k hk
        obtain ⟨e5, l3, R3⟩ := R2.unlock hc
        rw [eρ] at e5 l3 R3
        exact ⟨e5, (l1.trans l2).trans l3, l3, R3⟩
      refine ⟨_, δ, _, rfl, R1, hE.mono l1.1, hw od es, ⟨fun S2 δ2 σ2 l2 R2 E2 w2 => ?_, fun S2 d v l2 R2 r2 w2 => ?_, fun S2 δ2 σ2 l2 R2 E2 w2 => ?_, fun S2 δ2 σ2 l2 R2 E2 w2 => ?_, fun S2 x δ2 σ2 l2 R2 E2 w2 => w2.elim⟩⟩
      · obtain ⟨b1, b2, b3, b4⟩ := back l2 R2 w2.1
        exact ⟨b1, C.nx _ δ2 σ2 b2 b4 (E2.mono b3.1) w2.2⟩
      · obtain ⟨b1, b2, b3, b4⟩ := back l2 R2 w2.1
        exact ⟨b1, C.rt _ d v b2 b4 (r2.mono b3.1) w2.2⟩
      · obtain ⟨b1, b2, b3, b4⟩ := back l2 R2 w2.1
        exact ⟨b1, C.bk _ δ2 σ2 b2 b4 (E2.mono b3.1) w2.2⟩
      · obtain ⟨b1, b2, b3, b4⟩ := back l2 R2 w2.1
        exact ⟨b1, C.ct _ δ2 σ2 b2 b4 (E2.mono b3.1) w2.2⟩
    · exact hw.elim
theorem keyD_rep {K : PySem.W.Frag} {w : Vw} (k : Key) : Rep K w (keyD k) (kV k) := by
  cases k <;> rfl
theorem repP_get {κ : Type} {K : PySem.W.Frag} {w : Vw} : ∀ {fs : List (κ × D)} {es : List (κ × V)} {i : Nat} {k : κ} {v : V}, RepP K w fs es → es[i]? = some (k, v) → ∃ d, fs[i]? = some (k, d) ∧ Rep K w d v
  | [], es, i, k, v, h, e => by
    have h : es = [] := h
    subst h
    simp at e
  | (g, x) :: fs, es, 0, k, v, h, e => by
    obtain ⟨y, t, rfl, h1, h2⟩ := h
    simp only [List.getElem?_cons_zero, Option.some.injEq, Prod.mk.injEq] at e
    obtain ⟨rfl, rfl⟩ := e
    exact ⟨x, rfl, h1⟩
  | (g, x) :: fs, es, i + 1, k, v, h, e => by
    obtain ⟨y, t, rfl, h1, h2⟩ := h
    obtain ⟨d, h3, h4⟩ := repP_get (i := i) (k := k) (v := v) h2 (by simpa using e)
    exact ⟨d, by simpa using h3, h4⟩
theorem iter_items {W : Wd} {k : Nat} {kvs : List (Key × D)} {o : Obj} {es : List (Key × V)} {S0 : Ss} (hk : k < S0.μ.next) : IterD W (Iti (S0.ρ k) o es) (kvs.map fun kv => .tup [keyD kv.1, kv.2]) (fun μ' => μ'.cell k = some (.lck kvs o es)) S0 := fun S l R g => by
  obtain ⟨e1, r⟩ := R.ok _ _ g
  have eρ : S.ρ k = S0.ρ k := l.2.1 k hk
  rw [eρ] at e1
  rw [List.length_map]
  have hl : es.length = kvs.length := r.len
  refine ⟨⟨e1, Nat.le_of_eq hl⟩, fun i hi => ⟨⟨e1, by rw [hl]; exact hi⟩, fun x H' y => ?_⟩⟩
  obtain ⟨p, key, v, hkv, rfl, hp, rfl⟩ := y
  obtain ⟨d, hd, rd⟩ := repP_get r hkv
  obtain ⟨l2, R2, g2⟩ := R.fresh (o := .tup [kV key, v]) hp
  refine ⟨_, .tup [keyD key, d], l2, R2, rfl, rfl, by rw [List.getElem?_map, hd]; rfl, ⟨p, [kV key, v], rfl, SqT.of g2, ?_⟩⟩
  exact ⟨_, _, rfl, keyD_rep key, _, _, rfl, rd.mono l2.1, rfl⟩
theorem i_itm {elts : List Expr} {kk : Nat} {tpos apos pos : Pos} (ha : PE X a (DE (wd X T cls) Wx ca)) (hb : attributeBase a "items" X.env (eval a X.env) = eval a X.env) (hl : (apos.endLine == pos.line) = true) : PI X (.Tuple elts kk tpos) (.Call (.Attribute a "items" apos) [] [] pos) (DI (wd X T cls) Wx (.itm ca)) :=
  PI.weak (pi_items ha hb hl) fun σ H KR h => by
    obtain ⟨S, δ, KI, QX, rfl, R, hE, hw, hq, hx⟩ := h
    simp only [wpI] at hw
    refine ⟨S, δ, _, QX, rfl, R, hE, hw, fun S1 d1 v1 l1 R1 r1 w1 => ?_, hx⟩
    dsimp only at w1 ⊢
    split at w1
    · rename_i k
      split at w1
      · rename_i kvs o es e
        obtain ⟨e1, r⟩ := R1.ok _ _ e
        exact ⟨S1.ρ k, o, es, r1.2, e1, hq S1 _ _ _ l1 R1 (iter_items (R1.lt _ _ e)) w1⟩
      · exact w1.elim
    · exact w1.elim
theorem enumD_get : ∀ {n : Nat} {ds : List D} {i : Nat} {d : D}, ds[i]? = some d → (enumD n ds)[i]? = some (.tup [.int ((n + i : Nat) : Int), d])
  | n, [], i, d, h => by simp at h
  | n, x :: ds, 0, d, h => by
    simp only [List.getElem?_cons_zero, Option.some.injEq] at h
    subst h
    rfl
  | n, x :: ds, i + 1, d, h => by
    have := enumD_get (n := n + 1) (ds := ds) (i := i) (d := d) (by simpa using h)
    rw [show n + (i + 1) = n + 1 + i by omega]
    exact this
theorem enumD_len : ∀ {n : Nat} {ds : List D}, (enumD n ds).length = ds.length
  | _, [] => rfl
  | n, x :: ds => by
    show (enumD (n + 1) ds).length + 1 = _
    rw [enumD_len]
    rfl
theorem iter_enum {W : Wd} {p : Addr} {ds : List D} {gd : Sto → Prop} {S0 : Ss} (h : ∀ S, S0.vw.le S.vw → Rl W S → gd S.μ → ∃ xs, SqL W.K S.H p xs ∧ Reps W.K S.vw ds xs) : IterD W (Ite W.K p) (enumD 0 ds) gd S0 := fun S l R g => by
  obtain ⟨xs, hs, hr⟩ := h S l R g
  rw [enumD_len]
  refine ⟨⟨xs, hs, Nat.le_of_eq hr.length⟩, fun i hi => ⟨⟨xs, xs[i]'(by rw [hr.length]; exact hi), hs, List.getElem?_eq_getElem _⟩, fun x H' y => ?_⟩⟩
  obtain ⟨q, v, rfl, hq, rfl, hv⟩ := y
  obtain ⟨d, ed, rd⟩ := hr.get' (hv xs hs)
  obtain ⟨l2, R2, g2⟩ := R.fresh (o := .tup [.int (i : Nat), v]) hq
  refine ⟨_, .tup [.int (i : Nat), d], l2, R2, rfl, rfl, by rw [enumD_get ed, Nat.zero_add], ⟨q, [.int (i : Nat), v], rfl, SqT.of g2, ?_⟩⟩
  exact ⟨_, _, rfl, rfl, _, _, rfl, rd.mono l2.1, rfl⟩
theorem i_ien {elts : List Expr} {kk : Nat} {tpos p pos : Pos} (hg : Gl X "enumerate") (hm : X.mg "enumerate" = none) (ha : PE X a (DE (wd X T cls) Wx ca)) (hs : starEach [a] X.env = [(false, eval a X.env)]) : PI X (.Tuple elts kk tpos) (.Call (.Name "enumerate" p) [a] [] pos) (DI (wd X T cls) Wx (.ien ca)) :=
  PI.weak (pi_enum hg hm (pa_cons ha pa_nil hs) hs) fun σ H KR h => by
    obtain ⟨S, δ, KI, QX, rfl, R, hE, hw, hq, hx⟩ := h
    simp only [wpI] at hw
    refine ⟨S, δ, _, QX, rfl, R, hE, hw, fun S1 d1 v1 l1 R1 r1 w1 => ?_, hx⟩
    dsimp only at w1 ⊢
    split at w1
    · rename_i ds
      obtain ⟨p, xs, rfl, g, rr⟩ := r1
      exact ⟨p, xs, rfl, SqL.of (hid_ex g), hq S1 _ _ _ l1 R1 (iter_enum fun S2 l2 R2 _ => ⟨xs, SqL.of (hid_ex (l2.1.at g fun _ z => by cases z)), rr.mono l2⟩) w1⟩
    · rename_i k
      split at w1
      · rename_i ds e
        obtain ⟨xs, e1, rr⟩ := R1.ok _ _ e
        have hk := R1.lt _ _ e
        refine ⟨S1.ρ k, xs, by rw [show v1 = V.ref (S1.ρ k) from r1.2], SqL.of e1, hq S1 _ _ _ l1 R1 (iter_enum fun S2 l2 R2 g2 => ?_) w1⟩
        obtain ⟨ys, e2, r2⟩ := R2.ok _ _ g2
        have eρ : S2.ρ k = S1.ρ k := l2.2.1 k hk
        rw [eρ] at e2
        exact ⟨ys, SqL.of e2, r2⟩
      · exact w1.elim
    · exact w1.elim
/-! ### statements -/
variable {st : Stmt} {rest : List Stmt} {cs cr : IR}
theorem s_nil : PSs X [] (DS (wd X T cls) Wx .nil) :=
  PSs.weak pss_nil fun E σ H h => by
    obtain ⟨S, δ, O, rfl, R, hE, hw, C⟩ := h
    simp only [wpS] at hw
    exact C.nx S δ σ (.refl _) R hE hw
theorem s_seq (h1 : PS X st (DS (wd X T cls) Wx cs)) (h2 : PSs X rest (DS (wd X T cls) Wx cr)) : PSs X (st :: rest) (DS (wd X T cls) Wx (.seq cs cr)) :=
  PSs.weak (pss_cons h1 h2) fun E σ H h => by
    obtain ⟨S, δ, O, rfl, R, hE, hw, C⟩ := h
    simp only [wpS] at hw
    exact ⟨S, δ, _, rfl, R, hE, hw, ⟨fun S1 δ1 σ1 l1 R1 E1 w1 => ⟨S1, δ1, O, rfl, R1, E1, w1, C.le l1⟩, C.rt, C.bk, C.ct, C.xc⟩⟩
theorem s_asg {t e : Expr} {cg ce : IR} (he : PE X e (DE (wd X T cls) Wx ce)) (hg : PG X t (DG (wd X T cls) cg)) (hs : swapsWithSole [t] e pos.line X.env = pure false) (hw : swappedStores [t] e X.env = pure none)
    (h1 : (assignEach [t] X.env).map (·.2) = [assign t X.env]) : PS X (.Assign [t] e pos) (DS (wd X T cls) Wx (.asg cg ce)) :=
  PS.weak (ps_asg he hg hs hw h1) fun E σ H h => by
    obtain ⟨S, δ, O, rfl, R, hE, hw, C⟩ := h
    simp only [wpS] at hw
    exact ⟨S, δ, _, _, rfl, R, hE, hw, fun S1 d1 v1 l1 R1 r1 w1 => ⟨S1, δ, d1, O.nx, rfl, R1, hE.mono l1.1, r1, w1, fun S2 δ2 σ2 l2 R2 E2 a2 w2 => C.nx S2 δ2 σ2 (l1.trans l2) R2 E2 w2⟩, C.afx hE⟩
theorem s_exp {e : Expr} {ce : IR} (he : PE X e (DE (wd X T cls) Wx ce)) (hs : swapsWith e none pos.line X.env = pure false) : PS X (.Expr e pos) (DS (wd X T cls) Wx (.exp ce)) :=
  PS.weak (ps_expr he hs) fun E σ H h => by
    obtain ⟨S, δ, O, rfl, R, hE, hw, C⟩ := h
    simp only [wpS] at hw
    exact ⟨S, δ, _, _, rfl, R, hE, hw, fun S1 d1 v1 l1 R1 r1 w1 => C.nx S1 δ σ l1 R1 (hE.mono l1.1) w1, C.afx hE⟩
theorem s_ret {e : Expr} {ce : IR} (he : PE X e (DE (wd X T cls) Wx ce)) : PS X (.Return (some e) pos) (DS (wd X T cls) Wx (.ret ce)) :=
  PS.weak (ps_ret he) fun E σ H h => by
    obtain ⟨S, δ, O, rfl, R, hE, hw, C⟩ := h
    simp only [wpS] at hw
    exact ⟨S, δ, _, _, rfl, R, hE, hw, C.rt, C.afx hE⟩
theorem s_ret0 : PS X (.Return none pos) (DS (wd X T cls) Wx .ret0) :=
  PS.weak ps_retN fun E σ H h => by
    obtain ⟨S, δ, O, rfl, R, hE, hw, C⟩ := h
    simp only [wpS] at hw
    exact C.rt S .non _ (.refl _) R rfl hw
theorem s_if {t : Expr} {b1 b2 : List Stmt} {ct c1 c2 : IR} (ht : PT X t (DT (wd X T cls) Wx ct)) (h1 : PSs X b1 (DS (wd X T cls) Wx c1)) (h2 : PSs X b2 (DS (wd X T cls) Wx c2)) : PS X (.If t b1 b2 pos) (DS (wd X T cls) Wx (.ifS ct c1 c2)) :=
  PS.weak (ps_if ht h1 h2) fun E σ H h => by
    obtain ⟨S, δ, O, rfl, R, hE, hw, C⟩ := h
    simp only [wpS] at hw
    refine ⟨S, δ, _, _, rfl, R, hE, hw, fun S1 k l1 R1 w1 => ?_, C.afx hE⟩
    cases k with
    | true =>
      rw [if_pos rfl] at w1 ⊢
      exact ⟨S1, δ, O, rfl, R1, hE.mono l1.1, w1, C.le l1⟩
    | false =>
      rw [if_neg Bool.false_ne_true] at w1 ⊢
      exact ⟨S1, δ, O, rfl, R1, hE.mono l1.1, w1, C.le l1⟩
theorem s_brk : PS X (.Break pos) (DS (wd X T cls) Wx .brk) :=
  PS.weak ps_break fun E σ H h => by
    obtain ⟨S, δ, O, rfl, R, hE, hw, C⟩ := h
    simp only [wpS] at hw
    exact C.bk S δ σ (.refl _) R hE hw
theorem s_cnt : PS X (.Continue pos) (DS (wd X T cls) Wx .cnt) :=
  PS.weak ps_continue fun E σ H h => by
    obtain ⟨S, δ, O, rfl, R, hE, hw, C⟩ := h
    simp only [wpS] at hw
    exact C.ct S δ σ (.refl _) R hE hw
theorem s_pas : PS X (.Pass pos) (DS (wd X T cls) Wx .pas) :=
  PS.weak ps_pass fun E σ H h => by
    obtain ⟨S, δ, O, rfl, R, hE, hw, C⟩ := h
    simp only [wpS] at hw
    exact C.nx S δ σ (.refl _) R hE hw
theorem s_nev : PS X st (DS (wd X T cls) Wx .nev) :=
  PS.weak ps_never fun E σ H h => by
    obtain ⟨S, δ, O, rfl, R, hE, hw, C⟩ := h
    simp only [wpS] at hw
theorem s_whl {t : Expr} {b1 : List Stmt} {ct c1 : IR} (hp : PassesOwn (model X.prog X.w) X.A X.env X.xe) (ht : PT X t (DT (wd X T cls) Wx ct)) (h1 : PSs X b1 (DS (wd X T cls) Wx c1)) : PS X (.While t b1 [] pos) (DS (wd X T cls) Wx (.whl ct c1)) :=
  PS.weak (ps_while hp ht h1) fun E σ H h => by
    obtain ⟨S, δ, O, rfl, R, hE, hw, C⟩ := h
    simp only [wpS] at hw
    obtain ⟨n, hw⟩ := hw
    refine ⟨fun m σ' H' => ∃ S1 δ1, S1.H = H' ∧ S.le S1 ∧ Rl (wd X T cls) S1 ∧ EnvR (wd X T cls) S1.vw δ1 σ' ∧ loopW (fun δ μ Q => wpT ct δ μ Q (fun x μ' => O.xc x δ μ')) (fun δ μ N => wpS c1 δ μ { O with nx := N, ct := N, bk := O.nx }) O.nx m δ1 S1.μ,
      ⟨n, S, δ, rfl, .refl _, R, hE, hw⟩, ?_⟩
    rintro m σ' H' ⟨S1, δ1, rfl, l1, R1, E1, w1⟩
    cases m with
    | zero => exact w1.elim
    | succ m =>
      have w1 : wpT ct δ1 S1.μ (fun b μ' => if b = true then wpS c1 δ1 μ' _ else O.nx δ1 μ') (fun x μ' => O.xc x δ1 μ') := w1
      refine ⟨S1, δ1, _, _, rfl, R1, E1, w1, fun S2 k l2 R2 w2 => ?_, (C.le l1).afx E1⟩
      cases k with
      | true =>
        rw [if_pos rfl] at w2 ⊢
        refine ⟨_, fun σ3 H3 h => ⟨m, Nat.lt_succ_self m, h⟩, S2, δ1, _, rfl, R2, E1.mono l2.1, w2, ?_⟩
        have lx := l1.trans l2
        exact ⟨fun S3 δ3 σ3 l3 R3 E3 w3 => ⟨S3, δ3, rfl, lx.trans l3, R3, E3, w3⟩, C.rt.le lx, fun S3 δ3 σ3 l3 R3 E3 w3 => C.nx S3 δ3 σ3 (lx.trans l3) R3 E3 w3, fun S3 δ3 σ3 l3 R3 E3 w3 => ⟨S3, δ3, rfl, lx.trans l3, R3, E3, w3⟩, (C.le lx).xc⟩
      | false =>
        rw [if_neg Bool.false_ne_true] at w2 ⊢
        exact C.nx S2 δ1 σ' (l1.trans l2) R2 (E1.mono l2.1) w2
theorem s_for {t it : Expr} {b1 : List Stmt} {cg ci c1 : IR} (hp : PassesOwn (model X.prog X.w) X.A X.env X.xe) (hc : X.calm = true) (hi : PI X t it (DI (wd X T cls) Wx ci)) (hg : PG X t (DG (wd X T cls) cg)) (h1 : PSs X b1 (DS (wd X T cls) Wx c1))
    (hs : ∀ x, foldedSetIterable it X.env x = pure x) : PS X (.For t it b1 [] pos) (DS (wd X T cls) Wx (.fr cg ci c1)) :=
  PS.weak (ps_for hp hc hi hg h1 hs) fun E σ H h => by
    obtain ⟨S, δ, O, rfl, R, hE, hw, C⟩ := h
    simp only [wpS] at hw
    refine ⟨S, δ, _, _, rfl, R, hE, hw, fun S1 J ds gd l1 R1 hJ w1 => ?_, C.afx hE⟩
    refine ⟨fun i m σ' H' => ∃ S2 δ2, S2.H = H' ∧ S1.le S2 ∧ Rl (wd X T cls) S2 ∧ EnvR (wd X T cls) S2.vw δ2 σ' ∧ i ≤ ds.length ∧ m = ds.length - i ∧
        loopF (fun x δ μ N => wpG cg x δ μ fun δ' μ' => wpS c1 δ' μ' { O with nx := N, ct := N, bk := O.nx }) gd O.nx (ds.drop i) δ2 S2.μ,
      ⟨ds.length, S1, δ, rfl, .refl _, R1, hE.mono l1.1, Nat.zero_le _, rfl, w1⟩, ?_⟩
    rintro i m σ' H' ⟨S2, δ2, rfl, l2, R2, E2, hi, rfl, w2⟩
    by_cases hlt : i < ds.length
    · have ed : ds.drop i = ds[i] :: ds.drop (i + 1) := List.drop_eq_getElem_cons hlt
      rw [ed] at w2
      obtain ⟨g2, w2⟩ := w2
      obtain ⟨_, hgo⟩ := hJ S2 l2.1 R2 g2
      obtain ⟨go, hy⟩ := hgo i hlt
      refine .inr ⟨go, _, fun σ3 H3 h => h, fun x H3 y => ?_⟩
      obtain ⟨S3, d, l3, R3, rfl, em, e3, r3⟩ := hy x H3 y
      rw [List.getElem?_eq_getElem hlt] at e3
      cases e3
      have lx := (l1.trans l2).trans l3
      rw [← em] at w2
      refine ⟨S3, δ2, _, _, rfl, R3, E2.mono l3.1, r3, w2, fun S4 δ4 σ4 l4 R4 E4 _ w4 => ⟨S4, δ4, _, rfl, R4, E4, w4, ?_⟩⟩
      have ly := lx.trans l4
      have back : ∀ S5 δ5 σ5, S4.le S5 → Rl (wd X T cls) S5 → EnvR (wd X T cls) S5.vw δ5 σ5 → loopF (fun x δ μ N => wpG cg x δ μ fun δ' μ' => wpS c1 δ' μ' { O with nx := N, ct := N, bk := O.nx }) gd O.nx (ds.drop (i + 1)) δ5 S5.μ →
          ∃ m', m' < ds.length - i ∧ ∃ S2 δ2, S2.H = S5.H ∧ S1.le S2 ∧ Rl (wd X T cls) S2 ∧ EnvR (wd X T cls) S2.vw δ2 σ5 ∧ i + 1 ≤ ds.length ∧ m' = ds.length - (i + 1) ∧ loopF (fun x δ μ N => wpG cg x δ μ fun δ' μ' => wpS c1 δ' μ' { O with nx := N, ct := N, bk := O.nx }) gd O.nx (ds.drop (i + 1)) δ2 S2.μ :=
        fun S5 δ5 σ5 l5 R5 E5 w5 => ⟨ds.length - (i + 1), by omega, S5, δ5, rfl, ((l2.trans l3).trans l4).trans l5, R5, E5, hlt, rfl, w5⟩
      exact ⟨fun S5 δ5 σ5 l5 R5 E5 w5 => back S5 δ5 σ5 l5 R5 E5 w5, C.rt.le ly, fun S5 δ5 σ5 l5 R5 E5 w5 => C.nx S5 δ5 σ5 (ly.trans l5) R5 E5 w5, fun S5 δ5 σ5 l5 R5 E5 w5 => back S5 δ5 σ5 l5 R5 E5 w5, (C.le ly).xc⟩
    · have e : i = ds.length := by omega
      subst e
      rw [List.drop_length] at w2
      obtain ⟨g2, w2⟩ := w2
      exact .inl ⟨(hJ S2 l2.1 R2 g2).1, C.nx S2 δ2 σ' (l1.trans l2) R2 E2 w2⟩
end
end M
end

section
set_option Elab.async false
set_option linter.all false
set_option maxRecDepth 100000
set_option maxHeartbeats 4000000
/-! M: comprehensions, calls. -/
namespace M
open PySem PySem.Spec PyProof.Rows L2

theorem wipe_get (σ : L2.St) (j : Nat) : ∀ vs : List Nat, (wipe σ vs)[j]? = if j ∈ vs then (if j < σ.length then some none else none) else σ[j]?
  | [] => by simp [wipe]
  | v :: vs => by
    unfold wipe
    by_cases hv : v = j
    · subst hv
      rw [if_pos List.mem_cons_self]
      by_cases hl : v < σ.length
      · rw [if_pos hl, List.getElem?_set_self (by rw [wipe_length]; exact hl)]
      · rw [if_neg hl, List.getElem?_eq_none (by rw [List.length_set, wipe_length]; omega)]
    · rw [List.getElem?_set_ne hv, wipe_get σ j vs]
      have : j ∈ v :: vs ↔ j ∈ vs := by
        rw [List.mem_cons]
        exact ⟨fun z => z.elim (fun e => absurd e.symm hv) id, .inr⟩
      by_cases hm : j ∈ vs
      · rw [if_pos hm, if_pos (this.mpr hm)]
      · rw [if_neg hm, if_neg (fun z => hm (this.mp z))]
theorem wipeE_length (δ : Env) : ∀ vs : List Nat, (wipeE δ vs).length = δ.length
  | [] => rfl
  | v :: vs => by unfold wipeE; rw [List.length_set, wipeE_length δ vs]
theorem wipeE_some {δ : Env} {i : Nat} {x : D} : ∀ {vs : List Nat}, (wipeE δ vs)[i]? = some (some x) → δ[i]? = some (some x) ∧ i ∉ vs
  | [], h => ⟨h, by simp⟩
  | v :: vs, h => by
    unfold wipeE at h
    by_cases hi : v = i
    · subst hi
      by_cases hv : v < (wipeE δ vs).length
      · rw [List.getElem?_set_self hv] at h; cases h
      · rw [List.getElem?_eq_none (by simpa using hv)] at h; cases h
    · rw [List.getElem?_set_ne hi] at h
      obtain ⟨h1, h2⟩ := wipeE_some h
      exact ⟨h1, by simp only [List.mem_cons, not_or]; exact ⟨fun e => hi e.symm, h2⟩⟩
theorem EnvR.wipe {W : Wd} {w : Vw} {δ : Env} {σ : L2.St} (h : EnvR W w δ σ) (vs : List Nat) : EnvR W w (wipeE δ vs) (L2.wipe σ vs) := by
  refine ⟨by rw [wipeE_length, wipe_length, h.1], fun i d e => ?_⟩
  obtain ⟨e1, hn⟩ := wipeE_some e
  obtain ⟨v, ev, r⟩ := h.2 i d e1
  exact ⟨v, by rw [wipe_get, if_neg hn]; exact ev, r⟩
theorem wipe_back {σ σ2 : L2.St} {vs : List Nat} (hl : σ2.length = (wipe σ vs).length) (h : ∀ j, j ∉ vs → σ2[j]? = (wipe σ vs)[j]?) : wipe σ2 vs = wipe σ vs := by
  apply List.ext_getElem?
  intro j
  rw [wipe_get, wipe_get]
  rw [wipe_length] at hl
  by_cases hj : j ∈ vs
  · rw [if_pos hj, if_pos hj, hl]
  · rw [if_neg hj, if_neg hj, h j hj, wipe_get, if_neg hj]

section
variable {W : Wd} {S : Ss} {p : Addr} {o : HO}
/-- what was kept becomes a cell -/
theorem Rl.adopt {c : Cell} {pv' : Hp} {u : HO} (R : Rl W S) (hp : S.pv p = some u) (hv : ∀ a o, pv' a = some o → S.pv a = some o ∧ a ≠ p) (n : CellOk W ⟨hid S, newρ S.ρ S.μ.next p, S.μ.next + 1⟩ (upd S.H p o) p c) :
    S.vw.le (Ss.vw { ρ := newρ S.ρ S.μ.next p, μ := S.μ.new c, H := upd S.H p o, pv := pv' }) ∧ Rl W { ρ := newρ S.ρ S.μ.next p, μ := S.μ.new c, H := upd S.H p o, pv := pv' } := by
  have lt : ∀ {j d}, S.μ.cell j = some d → j ≠ S.μ.next := fun {j d} e => Nat.ne_of_lt (R.lt j d e)
  have nep : ∀ {j d}, S.μ.cell j = some d → S.ρ j ≠ p := fun {j d} e => (R.prv p u hp).2 j d e
  have cs : ∀ {j d}, (S.μ.new c).cell j = some d → (j = S.μ.next ∧ d = c) ∨ (j ≠ S.μ.next ∧ S.μ.cell j = some d) := fun {j d} e => by
    by_cases hj : j = S.μ.next
    · subst hj
      rw [Sto.new_same] at e
      cases e
      exact .inl ⟨rfl, rfl⟩
    · rw [Sto.new_ne hj] at e
      exact .inr ⟨hj, e⟩
  have ex : ∀ a v, hid S a = some v → hid { ρ := newρ S.ρ S.μ.next p, μ := S.μ.new c, H := upd S.H p o, pv := pv' } a = some v := fun a v h => by
    obtain ⟨h1, h2⟩ := hid_some.mp h
    have ap : a ≠ p := fun z => h2 (.inr ⟨u, by rw [z]; exact hp⟩)
    refine hid_some.mpr ⟨(upd_ne ap).trans h1, ?_⟩
    rintro (⟨j, d, e1, e2⟩ | ⟨x, e1⟩)
    · have e2 : newρ S.ρ S.μ.next p j = a := e2
      rcases cs e1 with ⟨rfl, _⟩ | ⟨n1, e3⟩
      · rw [newρ_same] at e2
        exact ap e2.symm
      · rw [newρ_ne n1] at e2
        exact h2 (.inl ⟨j, d, e3, e2⟩)
    · exact h2 (.inr ⟨x, (hv a x e1).1⟩)
  have l : S.vw.le (Ss.vw { ρ := newρ S.ρ S.μ.next p, μ := S.μ.new c, H := upd S.H p o, pv := pv' }) := ⟨Ext.of_ex ex, fun k hk => newρ_ne (Nat.ne_of_lt hk), Nat.le_succ _⟩
  have lv : Vw.le ⟨hid S, newρ S.ρ S.μ.next p, S.μ.next + 1⟩ (Ss.vw { ρ := newρ S.ρ S.μ.next p, μ := S.μ.new c, H := upd S.H p o, pv := pv' }) := ⟨l.1, fun _ _ => rfl, Nat.le_refl _⟩
  refine ⟨l, fun i j d e h1 h2 h3 => ?_, fun j d e => ?_, fun j d e => ?_, fun a ha => tab_ext l.1 (R.tab a ha), fun a v e => ⟨?_, fun j d e2 => ?_⟩, lam_ex R.lam ex⟩
  · have h3 : newρ S.ρ S.μ.next p i = newρ S.ρ S.μ.next p j := h3
    rcases cs h1 with ⟨e1, _⟩ | ⟨n1, e1⟩ <;> rcases cs h2 with ⟨e2, _⟩ | ⟨n2, e2⟩
    · rw [e1, e2]
    · rw [e1, newρ_same, newρ_ne n2] at h3
      exact absurd h3.symm (nep e2)
    · rw [e2, newρ_same, newρ_ne n1] at h3
      exact absurd h3 (nep e1)
    · rw [newρ_ne n1, newρ_ne n2] at h3
      exact R.inj i j d e e1 e2 h3
  · rcases cs e with ⟨e1, _⟩ | ⟨n1, e1⟩
    · rw [e1]
      exact Nat.lt_succ_self _
    · exact Nat.lt_succ_of_lt (R.lt j d e1)
  · rcases cs e with ⟨e1, e2⟩ | ⟨n1, e1⟩
    · subst e1 e2
      show CellOk W _ _ (newρ S.ρ S.μ.next p S.μ.next) d
      rw [newρ_same]
      exact n.mono lv rfl
    · show CellOk W _ _ (newρ S.ρ S.μ.next p j) d
      rw [newρ_ne n1]
      exact (R.ok j d e1).mono l (upd_ne (nep e1))
  · obtain ⟨h1, h2⟩ := hv a v e
    exact (upd_ne h2).trans (R.prv a v h1).1
  · show newρ S.ρ S.μ.next p j ≠ a
    obtain ⟨h1, h2⟩ := hv a v e
    rcases cs e2 with ⟨e3, _⟩ | ⟨n1, e3⟩
    · rw [e3, newρ_same]
      exact fun z => h2 z.symm
    · rw [newρ_ne n1]
      exact (R.prv a v h1).2 j d e3
end
abbrev W0 : WX := fun _ _ _ _ => False
section
variable {X : Cx} {T : List Addr} {cls : Nat → Addr} {Wx : WX}
variable {elt tg iter : Expr} {ifs : List Expr} {scope : Scope} {own : List (Str × Nat)} {pos : Pos} {cg ci ct ce : IR}
/-- the reading of a comprehension -/
theorem lc_read {σ : L2.St} {H : Hp} {Q : VK} (hsl : ∀ j ∈ slotsG cg, j ∈ own.map (·.2)) (h : DE (wd X T cls) Wx (.cpr own cg ci ct ce) σ H Q) :
    tLc (DI (wd X T cls) Wx ci) (DG (wd X T cls) cg) (DT (wd X T cls) W0 ct) (DE (wd X T cls) W0 ce) (own.map (·.2)) σ H Q := by
  obtain ⟨S, δ, QM, QX, rfl, R, hE, hw, hq, hx⟩ := h
  simp only [wpE] at hw
  refine ⟨S, δ, _, QX, rfl, R, hE, hw, fun S1 J ds gd l1 R1 hJ w1 => ?_, hx⟩
  intro D hD
  have pvD : S1.pv D = none := by
    cases e : S1.pv D with
    | none => rfl
    | some o =>
      have := (R1.prv D o e).1
      rw [hD] at this
      cases this
  obtain ⟨lk, Rk⟩ := R1.keep (o := .lst []) hD
  refine ⟨fun i m H' => ∃ S2 acc vs, S2.H = H' ∧ S1.vw.le S2.vw ∧ S2.pv = upd S1.pv D (.lst vs) ∧ Rl (wd X T cls) S2 ∧ Reps X.K S2.vw acc vs ∧ i ≤ ds.length ∧ m = ds.length - i ∧
      loopC (fun x μ N => wpG cg x (wipeE δ (own.map (·.2))) μ fun δ2 μ2 => wpT ct δ2 μ2 (fun b μ3 => if b = true then wpE ce δ2 μ3 (fun y μ4 => N (some y) μ4) (fun _ _ => False) else N none μ3) (fun _ _ => False)) gd (fun ys μ2 => QM (.lst ys) μ2) (ds.drop i) acc S2.μ,
    ⟨ds.length, _, [], [], rfl, lk, rfl, Rk, rfl, Nat.zero_le _, rfl, w1⟩, ?_⟩
  rintro i m H' ⟨S2, acc, vs, rfl, l2, hpv, R2, ra, hi, rfl, w2⟩
  by_cases hlt : i < ds.length
  · have ed : ds.drop i = ds[i] :: ds.drop (i + 1) := List.drop_eq_getElem_cons hlt
    rw [ed] at w2
    obtain ⟨g2, w2⟩ := w2
    obtain ⟨_, hgo⟩ := hJ S2 l2 R2 g2
    obtain ⟨go, hy⟩ := hgo i hlt
    refine .inr ⟨go, _, fun H3 h => h, fun x H3 y => ?_⟩
    obtain ⟨S3, d, l3, R3, rfl, em, e3, r3⟩ := hy x H3 y
    rw [List.getElem?_eq_getElem hlt] at e3
    cases e3
    rw [← em] at w2
    have fin : ∀ {S' : Ss} {acc' vs'}, S3.vw.le S'.vw → S'.pv = upd S1.pv D (.lst vs') → Rl (wd X T cls) S' → Reps X.K S'.vw acc' vs' → loopC (fun x μ N => wpG cg x (wipeE δ (own.map (·.2))) μ fun δ2 μ2 => wpT ct δ2 μ2 (fun b μ3 => if b = true then wpE ce δ2 μ3 (fun y μ4 => N (some y) μ4) (fun _ _ => False) else N none μ3) (fun _ _ => False)) gd (fun ys μ2 => QM (.lst ys) μ2) (ds.drop (i + 1)) acc' S'.μ →
        ∃ m', m' < ds.length - i ∧ ∃ S2 acc vs, S2.H = S'.H ∧ S1.vw.le S2.vw ∧ S2.pv = upd S1.pv D (.lst vs) ∧ Rl (wd X T cls) S2 ∧ Reps X.K S2.vw acc vs ∧ i + 1 ≤ ds.length ∧ m' = ds.length - (i + 1) ∧
          loopC (fun x μ N => wpG cg x (wipeE δ (own.map (·.2))) μ fun δ2 μ2 => wpT ct δ2 μ2 (fun b μ3 => if b = true then wpE ce δ2 μ3 (fun y μ4 => N (some y) μ4) (fun _ _ => False) else N none μ3) (fun _ _ => False)) gd (fun ys μ2 => QM (.lst ys) μ2) (ds.drop (i + 1)) acc S2.μ :=
      fun {S' acc' vs'} l hp R' r' w' => ⟨ds.length - (i + 1), by omega, S', acc', vs', rfl, (l2.trans l3.1).trans l, hp, R', r', hlt, rfl, w'⟩
    refine ⟨S3, wipeE δ (own.map (·.2)), ds[i], _, rfl, R3, (hE.mono (l1.1.trans (l2.trans l3.1))).wipe _, r3, w2, fun S4 δ4 σ4 l4 R4 E4 a4 w4 => ⟨wipe_back a4.1 fun j hj => a4.2 j fun z => hj (hsl j z), S4, δ4, _, _, rfl, R4, E4, w4, fun S5 b l5 R5 w5 => ?_, afx_no⟩⟩
    cases b with
    | true =>
      rw [if_pos rfl] at w5 ⊢
      refine ⟨S5, δ4, _, _, rfl, R5, E4.mono l5.1, w5, fun S6 yd yv l6 R6 r6 w6 => ?_, afx_no⟩
      have pv6 : S6.pv = upd S1.pv D (.lst vs) := by rw [l6.2, l5.2, l4.2, l3.2, hpv]
      have at6 : S6.pv D = some (.lst vs) := by rw [pv6]; exact upd_same
      have l26 : S2.vw.le S6.vw := ((l3.1.trans l4.1).trans l5.1).trans l6.1
      obtain ⟨hz, w6⟩ := w6
      refine ⟨vs, (R6.prv D _ at6).1, by rw [ra.length]; exact hz, ?_⟩
      obtain ⟨l7, R7⟩ := R6.rekeep (o := .lst (vs ++ [yv])) at6
      refine fin (S' := { S6 with H := upd S6.H D (.lst (vs ++ [yv])), pv := upd S6.pv D (.lst (vs ++ [yv])) }) (vs' := vs ++ [yv]) ((l4.1.trans (l5.1.trans l6.1)).trans l7) ?_ R7 (((ra.mono l26).append (Reps.one r6)).mono l7) w6
      show upd S6.pv D _ = _
      rw [pv6, upd_upd]
    | false =>
      rw [if_neg Bool.false_ne_true] at w5 ⊢
      exact fin (l4.1.trans l5.1) (by rw [l5.2, l4.2, l3.2, hpv]) R5 (ra.mono ((l3.1.trans l4.1).trans l5.1)) w5
  · have e : i = ds.length := by omega
    subst e
    rw [List.drop_length] at w2
    obtain ⟨g2, w2⟩ := w2
    refine .inl ⟨(hJ S2 l2 R2 g2).1, ?_⟩
    have at2 : S2.pv D = some (.lst vs) := by rw [hpv]; exact upd_same
    obtain ⟨l3, R3⟩ := R2.give (pv' := S1.pv) fun a o e => by
      rw [hpv]
      by_cases ha : a = D
      · rw [ha, pvD] at e
        cases e
      · rw [upd_ne ha]
        exact e
    refine hq { S2 with pv := S1.pv } (.lst acc) (.ref D) (l1.trans ⟨l2.trans l3, rfl⟩) R3 ⟨D, vs, rfl, hid_some.mpr ⟨(R2.prv D _ at2).1, ?_⟩, ra.mono l3⟩ w2
    rintro (⟨k, c, h1, h2⟩ | ⟨o, h1⟩)
    · exact (R2.prv D _ at2).2 k c h1 h2
    · have h1 : S1.pv D = some o := h1
      rw [pvD] at h1
      cases h1
theorem d_cpr (hc : X.calm = true) (hN : X.N.Nodup) (hi : PI X tg iter (DI (wd X T cls) Wx ci)) (ok : BlkOk X.N X.env.scope scope own) (hsl : ∀ j ∈ slotsG cg, j ∈ own.map (·.2))
    (hg : ∀ (s : Shared) (H : Hp) (C : Addr) (cl : List (Str × Addr)) (fp : List Addr), PG (X.blk s H scope (compEnvC scope cl C X.env) fp) tg (DG (wd X T cls) cg)) (ht : ∀ (s : Shared) (H : Hp) (C : Addr) (cl : List (Str × Addr)) (fp : List Addr), PTs (X.blk s H scope (compEnvC scope cl C X.env) fp) ifs (DT (wd X T cls) W0 ct))
    (he : ∀ (s : Shared) (H : Hp) (C : Addr) (cl : List (Str × Addr)) (fp : List Addr), PE (X.blk s H scope (compEnvC scope cl C X.env) fp) elt (DE (wd X T cls) W0 ce)) (hs : ∀ x, foldedSetIterable iter X.env x = pure x) :
    PE X (.ListComp elt [⟨tg, iter, ifs, 0⟩] scope pos) (DE (wd X T cls) Wx (.cpr own cg ci ct ce)) :=
  PE.weak (pe_lc hc hN hi ok hg ht he hs) fun σ H Q h => lc_read hsl h
theorem s_asc {i : Nat} {y : Str} {py spos : Pos} (hc : X.calm = true) (hN : X.N.Nodup) (hy : X.N[i]? = some y) (hyl : X.env.scope.names.lookup y = some .local)
    (hsw : swapsWith (.ListComp elt [⟨tg, iter, ifs, 0⟩] scope pos) (some (.Name y py)) spos.line X.env = pure true) (hi : PI X tg iter (DI (wd X T cls) Wx ci)) (ok : BlkOk X.N X.env.scope scope own) (hsl : ∀ j ∈ slotsG cg, j ∈ own.map (·.2))
    (hg : ∀ (s : Shared) (H : Hp) (C : Addr) (cl : List (Str × Addr)) (fp : List Addr), PG (X.blk s H scope (compEnvC scope cl C X.env) fp) tg (DG (wd X T cls) cg)) (ht : ∀ (s : Shared) (H : Hp) (C : Addr) (cl : List (Str × Addr)) (fp : List Addr), PTs (X.blk s H scope (compEnvC scope cl C X.env) fp) ifs (DT (wd X T cls) W0 ct))
    (he : ∀ (s : Shared) (H : Hp) (C : Addr) (cl : List (Str × Addr)) (fp : List Addr), PE (X.blk s H scope (compEnvC scope cl C X.env) fp) elt (DE (wd X T cls) W0 ce)) (hs : ∀ x, foldedSetIterable iter X.env x = pure x) :
    PS X (.Assign [.Name y py] (.ListComp elt [⟨tg, iter, ifs, 0⟩] scope pos) spos) (DS (wd X T cls) Wx (.asc i (.cpr own cg ci ct ce))) :=
  PS.weak (ps_setLc hc hN hy hyl hsw hi ok hg ht he hs) fun E σ H h => by
    obtain ⟨S, δ, O, rfl, R, hE, hw, C⟩ := h
    simp only [wpS] at hw
    exact lc_read hsl ⟨S, δ, _, _, rfl, R, hE, hw, fun S1 d1 v1 l1 R1 r1 w1 => C.nx S1 _ _ l1 R1 ((hE.mono l1.1).set r1) w1, C.afx hE⟩
/-- the reading of a dict comprehension -/
theorem dc_read {ck cv : IR} {σ : L2.St} {H : Hp} {Q : VK} (hsl : ∀ j ∈ slotsG cg, j ∈ own.map (·.2)) (h : DE (wd X T cls) Wx (.dcp own cg ci ck cv) σ H Q) :
    tDc (DI (wd X T cls) Wx ci) (DG (wd X T cls) cg) (DT (wd X T cls) W0 .nop) (DE (wd X T cls) W0 ck) (DE (wd X T cls) W0 cv) (own.map (·.2)) σ H Q := by
  obtain ⟨S, δ, QM, QX, rfl, R, hE, hw, hq, hx⟩ := h
  simp only [wpE] at hw
  refine ⟨S, δ, _, QX, rfl, R, hE, hw, fun S1 J ds gd l1 R1 hJ w1 => ?_, hx⟩
  intro D hD
  have noD : S1.pv D = none := by
    cases e : S1.pv D with
    | none => rfl
    | some o =>
      have := (R1.prv D o e).1
      rw [hD] at this
      cases this
  obtain ⟨lk, Rk⟩ := R1.keep (o := .dK []) hD
  refine ⟨fun i m H' => ∃ S2 acc vs, S2.H = H' ∧ S1.vw.le S2.vw ∧ S2.pv = upd S1.pv D (.dK vs) ∧ Rl (wd X T cls) S2 ∧ RepP X.K S2.vw acc vs ∧ i ≤ ds.length ∧ m = ds.length - i ∧
      loopK (fun x μ N => wpG cg x (wipeE δ (own.map (·.2))) μ fun δ2 μ2 => wpE ck δ2 μ2 (fun kd μ3 => wpE cv δ2 μ3 (fun y μ4 => match keyOf kd with
    | some k => N k y μ4
    | none => False) (fun _ _ => False)) (fun _ _ => False)) gd (fun kvs μ2 => QM (.obj μ2.next) (μ2.new (.dct kvs))) (ds.drop i) acc S2.μ,
    ⟨ds.length, _, [], [], rfl, lk, rfl, Rk, rfl, Nat.zero_le _, rfl, w1⟩, ?_⟩
  rintro i m H' ⟨S2, acc, vs, rfl, l2, hpv, R2, ra, hi, rfl, w2⟩
  by_cases hlt : i < ds.length
  · have ed : ds.drop i = ds[i] :: ds.drop (i + 1) := List.drop_eq_getElem_cons hlt
    rw [ed] at w2
    obtain ⟨g2, w2⟩ := w2
    obtain ⟨go, hy⟩ := (hJ S2 l2 R2 g2).2 i hlt
    refine .inr ⟨go, _, fun H3 h => h, fun x H3 y => ?_⟩
    obtain ⟨S3, d, l3, R3, rfl, em, e3, r3⟩ := hy x H3 y
    rw [List.getElem?_eq_getElem hlt] at e3
    cases e3
    rw [← em] at w2
    refine ⟨S3, wipeE δ (own.map (·.2)), ds[i], _, rfl, R3, (hE.mono (l1.1.trans (l2.trans l3.1))).wipe _, r3, w2, fun S4 δ4 σ4 l4 R4 E4 a4 w4 => ⟨wipe_back a4.1 fun j hj => a4.2 j fun z => hj (hsl j z), S4, δ4, fun b μ => b = true ∧ μ = S4.μ, fun _ _ => False, rfl, R4, E4, by simp only [wpT]; exact ⟨trivial, trivial⟩, fun S5 b l5 R5 w5 => ?_, afx_no⟩⟩
    obtain ⟨rfl, em5⟩ := w5
    rw [if_pos rfl]
    rw [← em5] at w4
    refine ⟨S5, δ4, _, _, rfl, R5, E4.mono l5.1, w4, fun S6 kd kv l6 R6 r6 w6 => ⟨S6, δ4, _, _, rfl, R6, E4.mono (l5.1.trans l6.1), w6, fun S7 yd yv l7 R7 r7 w7 => ?_, afx_no⟩, afx_no⟩
    dsimp only at w7
    split at w7
    · rename_i key ek
      have hkv := key_rep ek r6
      have pv7 : S7.pv = upd S1.pv D (.dK vs) := by rw [l7.2, l6.2, l5.2, l4.2, l3.2, hpv]
      have at7 : S7.pv D = some (.dK vs) := by rw [pv7]; exact upd_same
      have l27 : S2.vw.le S7.vw := (((l3.1.trans l4.1).trans l5.1).trans l6.1).trans l7.1
      obtain ⟨hz, w7⟩ := w7
      obtain ⟨l8, R8⟩ := R7.rekeep (o := .dK (putK vs key yv)) at7
      refine ⟨vs, key, hkv, (R7.prv D _ at7).1, by rw [ra.len]; exact hz, ds.length - (i + 1), by omega, { S7 with H := upd S7.H D (.dK (putK vs key yv)), pv := upd S7.pv D (.dK (putK vs key yv)) }, _, putK vs key yv, rfl, (l2.trans l27).trans l8, ?_, R8, ((ra.mono l27).put r7).mono l8, hlt, rfl, w7⟩
      show upd S7.pv D _ = _
      rw [pv7, upd_upd]
    · exact w7.elim
  · have e : i = ds.length := by omega
    subst e
    rw [List.drop_length] at w2
    obtain ⟨g2, w2⟩ := w2
    refine .inl ⟨(hJ S2 l2 R2 g2).1, ?_⟩
    have at2 : S2.pv D = some (.dK vs) := by rw [hpv]; exact upd_same
    have hv : ∀ a o, S1.pv a = some o → S2.pv a = some o ∧ a ≠ D := fun a o e => by
      have ha : a ≠ D := fun z => by rw [z, noD] at e; cases e
      exact ⟨by rw [hpv, upd_ne ha]; exact e, ha⟩
    have atH := (R2.prv D _ at2).1
    have eqH : upd S2.H D (.dK vs) = S2.H := by
      funext b
      by_cases hb : b = D
      · rw [hb, upd_same, atH]
      · exact upd_ne hb
    obtain ⟨l3, R3⟩ := R2.adopt (c := .dct acc) (pv' := S1.pv) (o := .dK vs) at2 hv ⟨_, upd_same, ra.mono (w := S2.vw) (w' := ⟨hid S2, newρ S2.ρ S2.μ.next D, S2.μ.next + 1⟩) ⟨Ext.refl _, fun k hk => newρ_ne (Nat.ne_of_lt hk), Nat.le_succ _⟩⟩
    have := hq _ (.obj S2.μ.next) (.ref D) (l1.trans ⟨l2.trans l3, rfl⟩) R3 ⟨Nat.lt_succ_self _, by show V.ref D = V.ref (newρ S2.ρ S2.μ.next D S2.μ.next); rw [newρ_same]⟩ w2
    dsimp only at this
    rw [eqH] at this
    exact this
theorem d_dcp {kx vx : Expr} {ck cv : IR} (hc : X.calm = true) (hN : X.N.Nodup) (hi : PI X tg iter (DI (wd X T cls) Wx ci)) (ok : BlkOk X.N X.env.scope scope own) (hsl : ∀ j ∈ slotsG cg, j ∈ own.map (·.2))
    (hg : ∀ (s : Shared) (H : Hp) (C : Addr) (cl : List (Str × Addr)) (fp : List Addr), PG (X.blk s H scope (compEnvC scope cl C X.env) fp) tg (DG (wd X T cls) cg))
    (hk : ∀ (s : Shared) (H : Hp) (C : Addr) (cl : List (Str × Addr)) (fp : List Addr), PE (X.blk s H scope (compEnvC scope cl C X.env) fp) kx (DE (wd X T cls) W0 ck))
    (hv : ∀ (s : Shared) (H : Hp) (C : Addr) (cl : List (Str × Addr)) (fp : List Addr), PE (X.blk s H scope (compEnvC scope cl C X.env) fp) vx (DE (wd X T cls) W0 cv)) (hs : ∀ x, foldedSetIterable iter X.env x = pure x) :
    PE X (.DictComp kx vx [⟨tg, iter, [], 0⟩] scope pos) (DE (wd X T cls) Wx (.dcp own cg ci ck cv)) :=
  PE.weak (pe_dc hc hN hi ok hg (fun s H C cl fp => PTs.weak pts_nil fun σ H Q h => by
    obtain ⟨S, δ, QM, QX, rfl, R, hE, hw, hq, hx⟩ := h
    simp only [wpT] at hw
    exact hq S true (.refl _) R hw) hk hv hs) fun σ H Q h => dc_read hsl h
theorem ts_nil : PTs X [] (DT (wd X T cls) Wx .nop) :=
  PTs.weak pts_nil fun σ H Q h => by
    obtain ⟨S, δ, QM, QX, rfl, R, hE, hw, hq, hx⟩ := h
    simp only [wpT] at hw
    exact hq S true (.refl _) R hw
theorem ts_one {c : Expr} (h : PT X c (DT (wd X T cls) Wx ct)) : PTs X [c] (DT (wd X T cls) Wx ct) := pts_one h

/-! ### calls -/
/-- a def's promise, by data -/
def lift (W : Wd) (sp : Spec) : Sp := fun vs H Q E => ∃ S ds QM QX, S.H = H ∧ Rl W S ∧ Reps W.K S.vw ds vs ∧ sp ds S.μ QM QX ∧ After W S QM Q ∧ AfterX W S QX E
/-- the def (or built-in) that a module's name x holds does sp -/
structure Bs where
  P : Program
  w : World
  K : PySem.W.Frag
  mg : Str → Option Value
  base : Heap
abbrev Cx.bs (X : Cx) : Bs := ⟨X.prog, X.w, X.K, X.mg, X.base⟩
/-- a def of the text that is called by its name -/
def FnC (B : Bs) (T : List Addr) (cls : Nat → Addr) (k : Nat) (x : Str) (sp : Spec) : Prop :=
  ∃ (f : Addr) (fd : FuncData) (ps : List Str) (sp' : Spec) (dd : List D) (dvs : List V) (dus : List Value), B.mg x = some (.ref f) ∧ PySem.W.keepIn B.K (.ref f) = true ∧ (x == ("__debug__" : Str)) = false ∧
    FnOk B.P B.w B.K B.mg B.base (L2.CX B.P B.w) k f fd ps (lift ⟨B.K, T, cls⟩ sp') ∧ Binds B.K fd ps dus ∧ Vals dvs dus ∧ (∀ w, Reps B.K w dd dvs) ∧ ∀ ds μ Q E, sp ds μ Q E → sp' (ds ++ dd) μ Q E
/-- a built-in by its name -/
def BiC (B : Bs) (T : List Addr) (cls : Nat → Addr) (k : Nat) (x : Str) (sp : Spec) : Prop :=
  B.mg x = none ∧ x ≠ "__name__" ∧ (x == ("__debug__" : Str)) = false ∧ ∃ u : Value, bootBuiltins x = some u ∧ ((∃ id, u = .builtin id) ∨ ∃ id, u = .type id) ∧
    ∀ X : Cx, Cx.bs X = B → X.calm = true → Room k X.A → CallR X u fun vs H Q => ∃ S ds QM, S.H = H ∧ Rl (wd X T cls) S ∧ Reps X.K S.vw ds vs ∧ sp ds S.μ QM (fun _ _ => False) ∧ After (wd X T cls) S QM Q
def CalC (B : Bs) (T : List Addr) (cls : Nat → Addr) (k : Nat) (x : Str) (sp : Spec) : Prop := FnC B T cls k x sp ∨ (BiC B T cls k x sp ∧ ∀ ds μ Q E, sp ds μ Q E → sp ds μ Q (fun _ _ => False))
variable {e : Expr} {es : List Expr} {ca : IR} {k : Nat} {x : Str} {sp : Spec} {p : Pos}
theorem d_cal (hr : Room k X.A) (hc : X.calm = true) (tk : Takes X Wx) (h : CalC (Cx.bs X) T cls k x sp) (hg : Gl X x) (ha : PA X (e :: es) (DA (wd X T cls) Wx ca))
    (he : starEach (e :: es) X.env = (false, eval e X.env) :: starEach es X.env) (hpl : (backTo pos (starEach es X.env)).any (·.1) = false) : PE X (.Call (.Name x p) (e :: es) [] pos) (DE (wd X T cls) Wx (.cal x sp ca)) := by
  rcases h with ⟨f, fd, ps, sp', dd, dvs, dus, hm, hk, hdb, F, b, hd, hrd, imp⟩ | ⟨⟨hm, hn, hdb, u, hv, hu, hcr⟩, himp⟩
  · refine PE.weak (pe_callSD F hr hg hm hk b hd (passAt tk) ha hdb he hpl) fun σ H Q h => ?_
    obtain ⟨S, δ, QM, QX, rfl, R, hE, hw, hq, hx⟩ := h
    simp only [wpE] at hw
    exact ⟨S, δ, _, QX, rfl, R, hE, hw, fun S1 ds vs l1 R1 r1 w1 => ⟨S1, ds ++ dd, QM, QX, rfl, R1, r1.append (hrd _), imp _ _ _ _ w1, hq.le l1, hx.le l1⟩, hx⟩
  · have hcr := hcr X rfl hc hr
    have red : ∀ σ H Q, DE (wd X T cls) Wx (.cal x sp ca) σ H Q → DA (wd X T cls) Wx ca σ H fun vs H1 => ∃ S ds QM, S.H = H1 ∧ Rl (wd X T cls) S ∧ Reps X.K S.vw ds vs ∧ sp ds S.μ QM (fun _ _ => False) ∧ After (wd X T cls) S QM Q := fun σ H Q h => by
      obtain ⟨S, δ, QM, QX, rfl, R, hE, hw, hq, hx⟩ := h
      simp only [wpE] at hw
      exact ⟨S, δ, _, QX, rfl, R, hE, hw, fun S1 ds vs l1 R1 r1 w1 => ⟨S1, ds, QM, rfl, R1, r1, himp _ _ _ _ w1, hq.le l1⟩, hx⟩
    rcases hu with ⟨id, rfl⟩ | ⟨id, rfl⟩
    · exact PE.weak (pe_callB hcr hg hm hv ha hn hdb he hpl) red
    · exact PE.weak (pe_callTy hcr hg hm hv ha hn hdb he hpl) red
end
end M
end

section
set_option Elab.async false
set_option linter.all false
set_option maxRecDepth 100000
set_option maxHeartbeats 4000000
/-! M: a term and a piece of syntax, held side by side. -/
namespace M
open PySem PySem.Spec PyProof.Rows L2

def isSlice : Expr → Bool
  | .Slice .. => true
  | _ => false
def isStar : Expr → Bool
  | .Starred .. => true
  | _ => false
def isComp : Expr → Bool
  | .ListComp .. | .SetComp .. | .DictComp .. => true
  | _ => false
def isCall : Expr → Bool
  | .Call .. => true
  | _ => false
def isSetE : Expr → Bool
  | .Set .. => true
  | _ => false
def isSeqE : Expr → Bool
  | .Tuple .. | .List .. => true
  | _ => false
def isTupE : Expr → Bool
  | .Tuple .. => true
  | _ => false
def isBoolE : Expr → Bool
  | .BoolOp .. => true
  | _ => false
/-- a test that is its value's truth -/
def isPlainT : Expr → Bool
  | .UnaryOp .Not _ _ | .BoolOp .. | .IfExp .. | .Compare .. => false
  | _ => true
def visB (sc : Scope) (x : Str) : Bool := match sc.names.lookup x with
  | some .local | some .cell | some .free => true
  | _ => false
def glB (sc : Scope) (x : Str) : Bool := decide (sc.names.lookup x = some .globalImplicit)
def locB (sc : Scope) (top : Bool) (x : Str) : Bool := match sc.names.lookup x with
  | some .local => true
  | some .cell => top
  | _ => false
def okName (x : Str) : Bool := !(x == ("__debug__" : Str)) && !(x == ("__classdict__" : Str))
def conB : D → Const → Bool
  | .int i, .int j => decide (i = j)
  | .str s, .str t => decide (s = t)
  | .bl b, .bool c => b == c
  | .non, .none => true
  | _, _ => false
def noFree (sc : Scope) : Bool := sc.names.all fun y => match y.2 with
  | .free => false
  | .cell => false
  | _ => true

def chkOpt (c : IR) (e : Option Expr) (f : Expr → Bool) : Bool := match c, e with
  | .nop, none => true
  | .nop, some _ => false
  | _, some e => f e
  | _, none => false
def chkTs (c : IR) (es : List Expr) (f : Expr → Bool) : Bool := match c, es with
  | .nop, [] => true
  | .nop, _ :: _ => false
  | _, [e] => f e
  | _, _ => false
/-- two names, the first of them captured -/
def cellT (sc : Scope) : Expr → Bool
  | .Tuple [.Name x _, .Name _ _] _ _ => decide (sc.names.lookup x = some .cell)
  | _ => false
mutual
def chkE (N : List Str) : IR → Scope → Bool → Expr → Bool
  | .var i, sc, _, .Name x _ => decide (N[i]? = some x) && visB sc x && okName x
  | .con d, _, _, .Constant c _ _ => conB d c
  | .glb x _, sc, _, .Name y _ => decide (x = y) && glB sc y && okName y
  | .bty n, sc, _, .Name y _ => decide (Str.ofString n = y) && glB sc y && okName y
  | .bin o a b, sc, t, .BinOp l p r _ => decide (o = p) && chkE N a sc t l && chkE N b sc t r
  | .neg a, sc, t, .UnaryOp .USub x _ => chkE N a sc t x
  | .notV a, sc, t, .UnaryOp .Not x _ => chkE N a sc t x
  | .cmp o a b, sc, t, .Compare l [p] [r] _ => decide (o = p) && !behindInMarks p r && chkE N a sc t l && chkE N b sc t r
  | .chn o o' a b c, sc, t, .Compare l [p, p'] [r, r'] _ => decide (o = p) && decide (o' = p') && !lastMarks [p, p'] [r, r'] && chkE N a sc t l && chkE N b sc t r && chkE N c sc t r'
  | .one a, sc, t, .BoolOp _ [x] _ => chkE N a sc t x
  | .andV a r, sc, t, .BoolOp .And (x :: y :: es) pos => chkE N a sc t x && chkE N r sc t (.BoolOp .And (y :: es) pos)
  | .orV a r, sc, t, .BoolOp .Or (x :: y :: es) pos => chkE N a sc t x && chkE N r sc t (.BoolOp .Or (y :: es) pos)
  | .ife c a b, sc, t, .IfExp x y z _ => chkT N c sc t x && chkE N a sc t y && chkE N b sc t z
  | .ix a i, sc, t, .Subscript x y _ => !isSlice y && chkE N a sc t x && chkE N i sc t y
  | .sl a lo hi, sc, t, .Subscript x (.Slice l h none _) _ => chkE N a sc t x && chkOpt lo l (fun e => chkE N lo sc t e) && chkOpt hi h (fun e => chkE N hi sc t e)
  | .tupC as, sc, t, .Tuple es _ _ => chkA N as sc t es
  | .lstC as, sc, t, .List es _ => chkA N as sc t es
  | .lstM as, sc, t, .List es _ => chkA N as sc t es
  | .cal x _ as, sc, t, .Call (.Name y _) es [] _ => decide (x = y) && glB sc y && !es.isEmpty && chkA N as sc t es
  | .bme _ _ m _ o as, sc, t, .Call (.Attribute x a apos) es [] pos => decide (m = a) && !isCall x && !es.isEmpty && decide (es.length < 30) && (apos.endLine == pos.line) && chkE N o sc t x && chkA N as sc t es
  | .mcl m _ o as, sc, t, .Call (.Attribute x a apos) es [] pos => decide (m = a) && !isCall x && decide (es.length < 30) && (apos.endLine == pos.line) && chkE N o sc t x && chkA N as sc t es
  | .cpr own g it c e, sc, t, .ListComp elt [⟨tg, iter, ifs, as⟩] scope _ => decide (as = 0) && blkC N sc scope own && (slotsG g).all (fun j => decide (j ∈ own.map (·.2))) && !isSetE iter && chkI N it sc t tg iter && chkG N g (relS scope sc) false tg && chkTs c ifs (fun e => chkT N c (relS scope sc) false e) && chkE N e (relS scope sc) false elt
  | .dcp own g it ke ve, sc, t, .DictComp kx vx [⟨tg, iter, [], as⟩] scope _ => decide (as = 0) && blkC N sc scope own && (slotsG g).all (fun j => decide (j ∈ own.map (·.2))) && !isSetE iter && chkI N it sc t tg iter && chkG N g (relS scope sc) false tg && chkE N ke (relS scope sc) false kx && chkE N ve (relS scope sc) false vx
  | .frz a, sc, t, e => chkE N a sc t e
  | .lkE _ a, sc, t, e => chkE N a sc t e
  | .nod f _ as, sc, t, e => match f N sc t e with
    | some es => chkA N as sc t es
    | none => false
  | _, _, _, _ => false
def chkA (N : List Str) : IR → Scope → Bool → List Expr → Bool
  | .nil, _, _, [] => true
  | .cons a r, sc, t, e :: es => !isStar e && chkE N a sc t e && chkA N r sc t es
  | _, _, _, _ => false
def chkT (N : List Str) : IR → Scope → Bool → Expr → Bool
  | .cmp o a b, sc, t, .Compare l [p] [r] _ => decide (o = p) && !behindInMarks p r && chkE N a sc t l && chkE N b sc t r
  | .chn o o' a b c, sc, t, .Compare l [p, p'] [r, r'] _ => decide (o = p) && decide (o' = p') && !lastMarks [p, p'] [r, r'] && chkE N a sc t l && chkE N b sc t r && chkE N c sc t r'
  | .tV a, sc, t, e => isPlainT e && chkE N a sc t e
  | .tnd f _ as, sc, t, e => !isBoolE e && match f N sc t e with
    | some es => chkA N as sc t es
    | none => false
  | .tNot a, sc, t, .UnaryOp .Not x _ => chkT N a sc t x
  | .tOne a, sc, t, .BoolOp _ [x] _ => chkT N a sc t x
  | .tAnd a r, sc, t, .BoolOp .And (x :: y :: es) pos => chkT N a sc t x && chkT N r sc t (.BoolOp .And (y :: es) pos)
  | .tOr a r, sc, t, .BoolOp .Or (x :: y :: es) pos => chkT N a sc t x && chkT N r sc t (.BoolOp .Or (y :: es) pos)
  | _, _, _, _ => false
def chkI (N : List Str) : IR → Scope → Bool → Expr → Expr → Bool
  | .itV a, sc, t, _, e => chkE N a sc t e
  | .itm a, sc, t, tg, .Call (.Attribute x m apos) [] [] pos => isTupE tg && decide (m = ("items" : Str)) && !isCall x && (apos.endLine == pos.line) && chkE N a sc t x
  | .ien a, sc, t, tg, .Call (.Name y _) [e] [] _ => isTupE tg && decide (y = ("enumerate" : Str)) && glB sc y && !isStar e && chkE N a sc t e
  | .ind f _ as, sc, t, _, e => match f N sc t e with
    | some es => chkA N as sc t es
    | none => false
  | .itR1 a, sc, t, _, .Call (.Name y _) [e] [] _ => decide (y = ("range" : Str)) && glB sc y && !isStar e && chkE N a sc t e
  | .itR2 a b, sc, t, _, .Call (.Name y _) [e, e'] [] _ => decide (y = ("range" : Str)) && glB sc y && !isStar e && !isStar e' && chkE N a sc t e && chkE N b sc t e'
  | _, _, _, _, _ => false
def chkG (N : List Str) : IR → Scope → Bool → Expr → Bool
  | .gN i, sc, t, .Name x _ => decide (N[i]? = some x) && locB sc t x
  | .gT n gs, sc, t, .Tuple es _ _ => decide (es.length = n) && chkGs N gs sc t es
  | .gSub o i, sc, t, .Subscript x y _ => !isSlice y && chkE N o sc t x && chkE N i sc t y
  | _, _, _, _ => false
def chkGs (N : List Str) : IR → Scope → Bool → List Expr → Bool
  | .nil, _, _, [] => true
  | .cons a r, sc, t, e :: es => !isStar e && chkG N a sc t e && chkGs N r sc t es
  | _, _, _, _ => false
end
mutual
def chkS (N : List Str) : IR → Scope → Stmt → Bool
  | .asg g e, sc, .Assign [t] v _ => (!(isSeqE t && isSeqE v) || cellT sc t) && !isComp v && chkG N g sc true t && chkE N e sc true v
  | .asc i (.cpr own g it c e), sc, .Assign [.Name y py] (.ListComp elt [⟨tg, iter, ifs, as⟩] scope pos) _ => decide (as = 0) && decide (N[i]? = some y) && decide (sc.names.lookup y = some .local) && (py.line == pos.line) && !(scope.names.any fun (n, k) => n == y && (k == .local || k == .cell)) &&
      blkC N sc scope own && (slotsG g).all (fun j => decide (j ∈ own.map (·.2))) && !isSetE iter && chkI N it sc true tg iter && chkG N g (relS scope sc) false tg && chkTs c ifs (fun e => chkT N c (relS scope sc) false e) && chkE N e (relS scope sc) false elt
  | .exp e, sc, .Expr v _ => !isComp v && chkE N e sc true v
  | .ret e, sc, .Return (some v) _ => chkE N e sc true v
  | .ret0, _, .Return none _ => true
  | .ifS t a b, sc, .If c x y _ => chkT N t sc true c && chkB N a sc x && chkB N b sc y
  | .whl t b, sc, .While c x [] _ => chkT N t sc true c && chkB N b sc x
  | .fr g it b, sc, .For tg iter x [] _ => !isSetE iter && chkI N it sc true tg iter && chkG N g sc true tg && chkB N b sc x
  | .brk, _, .Break _ => true
  | .cnt, _, .Continue _ => true
  | .pas, _, .Pass _ => true
  | .nev, _, _ => true
  | .lkS _ a, sc, st => chkS N a sc st
  | .sno f _ as, sc, st => match f N sc st with
    | some es => chkA N as sc true es
    | none => false
  | _, _, _ => false
def chkB (N : List Str) : IR → Scope → List Stmt → Bool
  | .nil, _, [] => true
  | .seq s r, sc, st :: rest => chkS N s sc st && chkB N r sc rest
  | _, _, _ => false
end
end M
end

section
set_option Elab.async false
set_option linter.all false
set_option maxRecDepth 100000
set_option maxHeartbeats 4000000
/-! M: what the checked term asks of the module, and that it then does what it wants. -/
namespace M
open PySem PySem.Spec PyProof.Rows L2

def GlC (B : Bs) (x : Str) (d : D) : Prop := ∃ u v, B.mg x = some u ∧ RelV v u ∧ ∀ w, Rep B.K w d v
def BtC (B : Bs) (n : String) : Prop := B.mg (Str.ofString n) = none ∧ bootBuiltins (Str.ofString n) = some (.type n) ∧ Str.ofString n ≠ "__name__"
def MtC (B : Bs) (T : List Addr) (cls : Nat → Addr) (k : Nat) (Ty id : String) (m : Str) (sp : Spec) : Prop :=
  PlainAttrs Ty ∧ Slot Ty m id ∧ typeOf (.builtin id) = pure (.type "method_descriptor") ∧
    ∀ X : Cx, Cx.bs X = B → X.calm = true → Room k X.A → MtR X id fun x vs H Q => ∃ S d ds QM, S.H = H ∧ Rl (wd X T cls) S ∧ Rep X.K S.vw d x ∧ Reps X.K S.vw ds vs ∧ sp (d :: ds) S.μ QM (fun _ _ => False) ∧ After (wd X T cls) S QM Q
/-- a class's method m does sp -/
def MeC (B : Bs) (T : List Addr) (cls : Nat → Addr) (k : Nat) (c : Nat) (m : Str) (sp : Spec) : Prop :=
  Cls B.K (cls c) ∧ ∃ (f : Addr) (fd : FuncData) (ps : List Str) (sp' : Spec) (dd : List D) (dvs : List V) (dus : List Value), Meth B.K (cls c) m f ∧
    FnOk B.P B.w B.K B.mg B.base (L2.CX B.P B.w) k f fd ps (lift ⟨B.K, T, cls⟩ sp') ∧ Binds B.K fd ps dus ∧ Vals dvs dus ∧ (∀ w, Reps B.K w dd dvs) ∧ ∀ ds μ Q E, sp ds μ Q E → sp' (ds ++ dd) μ Q E
/-- the running def's code object, with its table -/
def CodeOk (X : Cx) (T : List Addr) : Prop := ∃ c P, X.env.code = .ref c ∧ GxR.TabB X.base X.mg c P ∧ P ∈ T

/-- the context of a def's body, or of a block in it -/
structure Gd (X : Cx) (top : Bool) (k : Nat) : Prop where
  calm : X.calm = true
  nd : X.N.Nodup
  room : Room k X.A
  fn : top = true → ∀ x, X.fn x = true
/-- where the one lambda is made: the running def's code object and its table -/
def lamK (sc : Scope) : Bool := decide (sc.names.lookup ("entry" : Str) = some .local) && decide (sc.names.lookup ("store" : Str) = some .local)
def LamOk (X : Cx) (cls : Nat → Addr) : Prop := lamK X.env.scope = true → X.env.qual ++ "<lambda>" = lamQ ∧ ∃ c, X.env.code = .ref c ∧ LamX.TabB X.base X.mg c (cls 1000)
structure Sd (B : Bs) (T : List Addr) (cls : Nat → Addr) (k : Nat) (X : Cx) (top : Bool) (cd : Prop) (Wx : WX) : Prop where
  bs : Cx.bs X = B
  g : Gd X top k
  co : cd → CodeOk X T
  tk : Takes X Wx
  ct : top = false → cd → False
  kind : top = true → X.env.scope.kind = .function
  lm : top = true → LamOk X cls
/-- the parts, each by itself -/
def PEs (X : Cx) (W : Wd) (Wx : WX) : IR → List Expr → Prop
  | .nil, es => es = []
  | .cons a r, es => match es with
    | e :: es => isStar e = false ∧ PE X e (DE W Wx a) ∧ PEs X W Wx r es
    | [] => False
  | _, _ => False
def NodOk (B : Bs) (T : List Addr) (cls : Nat → Addr) (k : Nat) (cd : Prop) (f : XF) (ev : EvE) : Prop :=
  ∀ (X : Cx) (top : Bool) (Wx : WX) (e : Expr) (es : List Expr) (as : IR), Sd B T cls k X top cd Wx → f X.N X.env.scope top e = some es → PEs X (wd X T cls) Wx as es → PE X e (DE (wd X T cls) Wx (.nod f ev as))
def TndOk (B : Bs) (T : List Addr) (cls : Nat → Addr) (k : Nat) (cd : Prop) (f : XF) (ev : EvT) : Prop :=
  ∀ (X : Cx) (top : Bool) (Wx : WX) (e : Expr) (es : List Expr) (as : IR), Sd B T cls k X top cd Wx → f X.N X.env.scope top e = some es → PEs X (wd X T cls) Wx as es → PT X e (DT (wd X T cls) Wx (.tnd f ev as))
def IndOk (B : Bs) (T : List Addr) (cls : Nat → Addr) (k : Nat) (cd : Prop) (f : XF) (ev : EvI) : Prop :=
  ∀ (X : Cx) (top : Bool) (Wx : WX) (tg e : Expr) (es : List Expr) (as : IR), Sd B T cls k X top cd Wx → f X.N X.env.scope top e = some es → PEs X (wd X T cls) Wx as es → PI X tg e (DI (wd X T cls) Wx (.ind f ev as))
def SnoOk (B : Bs) (T : List Addr) (cls : Nat → Addr) (k : Nat) (cd : Prop) (f : SF) (ev : EvS) : Prop :=
  ∀ (X : Cx) (Wx : WX) (st : Stmt) (es : List Expr) (as : IR), Sd B T cls k X true cd Wx → f X.N X.env.scope st = some es → PEs X (wd X T cls) Wx as es → PS X st (DS (wd X T cls) Wx (.sno f ev as))

/-- what a term asks of the module -/
def okE (B : Bs) (T : List Addr) (cls : Nat → Addr) (k : Nat) : Prop → IR → Prop
  | _, .glb x d => GlC B x d
  | _, .bty n => BtC B n
  | cd, .cal x sp as => CalC B T cls k x sp ∧ okE B T cls k cd as
  | cd, .bme Ty id m sp o as => MtC B T cls k Ty id m sp ∧ okE B T cls k cd o ∧ okE B T cls k cd as
  | cd, .mcl m tbl o as => (∀ c sp, tbl.lookup c = some sp → MeC B T cls k c m sp) ∧ okE B T cls k cd o ∧ okE B T cls k cd as
  | cd, .nod f ev as => NodOk B T cls k cd f ev ∧ okE B T cls k cd as
  | cd, .tnd f ev as => TndOk B T cls k cd f ev ∧ okE B T cls k cd as
  | cd, .ind f ev as => IndOk B T cls k cd f ev ∧ okE B T cls k cd as
  | cd, .sno f ev as => SnoOk B T cls k cd f ev ∧ okE B T cls k cd as
  | cd, .itR1 a => B.mg "range" = none ∧ okE B T cls k cd a
  | cd, .itR2 a b => B.mg "range" = none ∧ okE B T cls k cd a ∧ okE B T cls k cd b
  | cd, .cpr _ g it t e => okE B T cls k cd it ∧ okE B T cls k False g ∧ okE B T cls k False t ∧ okE B T cls k False e
  | cd, .dcp _ g it ke ve => okE B T cls k cd it ∧ okE B T cls k False g ∧ okE B T cls k False ke ∧ okE B T cls k False ve
  | cd, .bin _ a b => okE B T cls k cd a ∧ okE B T cls k cd b
  | cd, .neg a => okE B T cls k cd a
  | cd, .cmp _ a b => okE B T cls k cd a ∧ okE B T cls k cd b
  | cd, .chn _ _ a b c => okE B T cls k cd a ∧ okE B T cls k cd b ∧ okE B T cls k cd c
  | cd, .one a => okE B T cls k cd a
  | cd, .andV a b => okE B T cls k cd a ∧ okE B T cls k cd b
  | cd, .orV a b => okE B T cls k cd a ∧ okE B T cls k cd b
  | cd, .notV a => okE B T cls k cd a
  | cd, .ife a b c => okE B T cls k cd a ∧ okE B T cls k cd b ∧ okE B T cls k cd c
  | cd, .ix a b => okE B T cls k cd a ∧ okE B T cls k cd b
  | cd, .sl a b c => okE B T cls k cd a ∧ okE B T cls k cd b ∧ okE B T cls k cd c
  | cd, .tupC a => okE B T cls k cd a
  | cd, .lstC a => okE B T cls k cd a
  | cd, .lstM a => okE B T cls k cd a
  | cd, .cons a b => okE B T cls k cd a ∧ okE B T cls k cd b
  | cd, .frz a => okE B T cls k cd a
  | cd, .lkE _ a => okE B T cls k cd a
  | cd, .lkS _ a => okE B T cls k cd a
  | cd, .itm a => okE B T cls k cd a
  | cd, .ien a => B.mg "enumerate" = none ∧ okE B T cls k cd a
  | cd, .tV a => okE B T cls k cd a
  | cd, .tNot a => okE B T cls k cd a
  | cd, .tOne a => okE B T cls k cd a
  | cd, .tAnd a b => okE B T cls k cd a ∧ okE B T cls k cd b
  | cd, .tOr a b => okE B T cls k cd a ∧ okE B T cls k cd b
  | cd, .itV a => okE B T cls k cd a
  | cd, .gT _ a => okE B T cls k cd a
  | cd, .gSub a b => okE B T cls k cd a ∧ okE B T cls k cd b
  | cd, .asg a b => okE B T cls k cd a ∧ okE B T cls k cd b
  | cd, .asc _ b => okE B T cls k cd b
  | cd, .exp a => okE B T cls k cd a
  | cd, .ret a => okE B T cls k cd a
  | cd, .ifS a b c => okE B T cls k cd a ∧ okE B T cls k cd b ∧ okE B T cls k cd c
  | cd, .whl a b => okE B T cls k cd a ∧ okE B T cls k cd b
  | cd, .fr a b c => okE B T cls k cd a ∧ okE B T cls k cd b ∧ okE B T cls k cd c
  | cd, .seq a b => okE B T cls k cd a ∧ okE B T cls k cd b
  | _, _ => True

/-! ### side conditions -/
section
variable {X : Cx} {T : List Addr} {cls : Nat → Addr} {Wx : WX}
theorem gl_of {x : Str} (h : glB X.env.scope x = true) : Gl X x := of_decide_eq_true (p := X.env.scope.names.lookup x = some .globalImplicit) h
theorem vis_of {sc : Scope} {x : Str} (h : visB sc x = true) : Vis sc x := by
  unfold visB at h
  split at h <;> first | (rename_i e; first | exact .inl e | exact .inr (.inl e) | exact .inr (.inr e)) | cases h
theorem okN {x : Str} (h : okName x = true) : (x == ("__debug__" : Str)) = false ∧ (x == ("__classdict__" : Str)) = false := by
  unfold okName at h
  rw [Bool.and_eq_true, Bool.not_eq_true', Bool.not_eq_true'] at h
  exact h
theorem star_of {e : Expr} {es : List Expr} {env : PySem.Env} (h : isStar e = false) : starEach (e :: es) env = (false, eval e env) :: starEach es env := by
  cases e <;> first | rfl | cases (show true = false from h)
theorem back_of {pos : Pos} {env : PySem.Env} : ∀ {es : List Expr}, (es.all fun e => !isStar e) = true → (backTo pos (starEach es env)).any (·.1) = false
  | [], _ => rfl
  | e :: es, h => by
    rw [List.all_cons, Bool.and_eq_true, Bool.not_eq_true'] at h
    rw [star_of h.1]
    show (false || (backTo pos (starEach es env)).any (·.1)) = false
    rw [back_of h.2]
    rfl
theorem backAll_of {pos : Pos} {env : PySem.Env} : ∀ {es : List Expr}, (es.all fun e => !isStar e) = true → (backTo pos (starEach es env)).all (fun x => !x.1) = true
  | [], _ => rfl
  | e :: es, h => by
    rw [List.all_cons, Bool.and_eq_true, Bool.not_eq_true'] at h
    rw [star_of h.1]
    show (true && (backTo pos (starEach es env)).all (fun x => !x.1)) = true
    rw [backAll_of h.2]
    rfl
theorem plainIx_of {e : Expr} (h : isSlice e = false) : PlainIx e := by
  intro o i
  cases e <;> first | rfl | cases (show true = false from h)
theorem set_of {e : Expr} {env : PySem.Env} (h : isSetE e = false) : ∀ x, foldedSetIterable e env x = pure x := by
  intro x
  cases e <;> first | rfl | cases (show true = false from h)
theorem plainT_of {e : Expr} {env : PySem.Env} (h : isPlainT e = true) : ∀ whole, isTrue e env whole = (do let v ← whole; standAt e.pos; holding [v] (truthy v)) := by
  intro w
  cases e <;> first | rfl | (cases (show false = true from h)) | skip
  rename_i op x pos
  cases op <;> first | rfl | cases (show false = true from h)
theorem swap_of {e : Expr} {t : Option Expr} {n : Nat} {env : PySem.Env} (h : isComp e = false) : swapsWith e t n env = pure false := by
  cases e <;> first | rfl | cases (show true = false from h)
theorem stores_of {t e : Expr} {env : PySem.Env} (h : (isSeqE t && isSeqE e) = false) : swappedStores [t] e env = pure none := by
  cases t <;> first | rfl | (cases e <;> first | rfl | cases (show true = false from h))
theorem stores_cell {x y : Str} {px py p : Pos} {k : Nat} {v : Expr} {env : PySem.Env} (h : env.scope.names.lookup x = some .cell) : swappedStores [.Tuple [.Name x px, .Name y py] k p] v env = pure none := by
  unfold swappedStores
  cases v <;> first | rfl | skip
  rename_i vs k2 p2
  have key : ∀ f : Expr → Option Str, f (.Name x px) = none → ([Expr.Name x px, Expr.Name y py].filterMap f).length ≠ 2 := fun f hf => by
    rw [List.filterMap_cons_none hf]
    have := List.length_filterMap_le f [Expr.Name y py]
    rw [List.length_singleton] at this
    omega
  show (if _ then _ else _) = _
  split
  · rfl
  · split
    · rfl
    · rw [if_pos]
      rw [Bool.or_eq_true]
      left
      rw [bne_iff_ne]
      exact key _ (by simp [PySem.Env.kindOf, h])
theorem stores_or {t e : Expr} {env : PySem.Env} (h : (!(isSeqE t && isSeqE e) || cellT env.scope t) = true) : swappedStores [t] e env = pure none := by
  rw [Bool.or_eq_true] at h
  rcases h with h | h
  · exact stores_of (by rw [Bool.not_eq_true'] at h; exact h)
  · unfold cellT at h
    split at h
    · exact stores_cell (of_decide_eq_true h)
    · cases h
theorem assignEach_of {e : Expr} {es : List Expr} {env : PySem.Env} (h : isStar e = false) : assignEach (e :: es) env = (false, assign e env) :: assignEach es env := by
  cases e <;> first | rfl | cases (show true = false from h)
theorem assignSub {a b : Expr} {pos : Pos} {env : PySem.Env} (h : isSlice b = false) : ∀ v, assign (.Subscript a b pos) env v = (do
      let ov ← holding [v] (eval a env)
      let iv ← holding [v, ov] (eval b env)
      standAt pos
      holding [v, ov, iv] (setItem ov iv v)
      release [v, ov, iv] []) := by
  intro v
  cases b <;> first | rfl | cases (show true = false from h)
theorem base_of {o : Expr} {m : Str} {env : PySem.Env} (h : isCall o = false) : attributeBase o m env (eval o env) = eval o env := by
  cases o <;> first | rfl | cases (show true = false from h)

/-! ### a built-in's method -/
theorem tyD_rep {W : Wd} {S : Ss} {d : D} {v : V} {Ty : String} (R : Rl W S) (r : Rep W.K S.vw d v) (h : tyD Ty d S.μ = true) : tyV W.K Ty v S.H := by
  unfold tyD at h
  split at h
  · have e : v = _ := r
    subst e
    exact (show Ty = "str" from beq_iff_eq.mp h)
  · obtain ⟨a, xs, e, g, _⟩ := r
    subst e
    exact .inl ⟨beq_iff_eq.mp h, xs, SqL.of (hid_ex g)⟩
  · obtain ⟨a, xs, e, g, _⟩ := r
    subst e
    exact .inl ⟨beq_iff_eq.mp h, xs, hid_ext.sql g⟩
  · obtain ⟨_, e⟩ := r
    subst e
    split at h
    · rename_i c hc
      obtain ⟨xs, e1, _⟩ := R.ok _ _ hc
      exact .inl ⟨beq_iff_eq.mp h, xs, SqL.of e1⟩
    · rename_i c hc
      obtain ⟨xs, e1, _⟩ := R.ok _ _ hc
      exact .inr (.inr (.inl ⟨beq_iff_eq.mp h, .inl ⟨xs, e1⟩⟩))
    · cases h
  · cases h
theorem d_bme {o e : Expr} {es : List Expr} {co ca : IR} {k : Nat} {Ty id : String} {m : Str} {sp : Spec} {apos pos : Pos} (hr : Room k X.A) (hc : X.calm = true) (h : MtC (Cx.bs X) T cls k Ty id m sp) (ho : PE X o (DE (wd X T cls) Wx co)) (ha : PA X (e :: es) (DA (wd X T cls) Wx ca))
    (hno : isCall o = false) (hst : ((e :: es).all fun e => !isStar e) = true) (hlen : (e :: es).length < 30) (hline : (apos.endLine == pos.line) = true) : PE X (.Call (.Attribute o m apos) (e :: es) [] pos) (DE (wd X T cls) Wx (.bme Ty id m sp co ca)) := by
  obtain ⟨pa, sl, hty, hm⟩ := h
  have hst' := hst
  rw [List.all_cons, Bool.and_eq_true, Bool.not_eq_true'] at hst'
  refine PE.weak (pe_bm pa sl hty (hm X rfl hc hr) ho ha (base_of hno) ?_ hline (star_of hst'.1) (back_of hst'.2)) fun σ H Q h => ?_
  · rw [backAll_of hst, Bool.true_and]
    show (true && decide ((e :: es).length + 0 + 0 < 30)) = true
    rw [Bool.true_and]
    exact decide_eq_true hlen
  · obtain ⟨S, δ, QM, QX, rfl, R, hE, hw, hq, hx⟩ := h
    simp only [wpE] at hw
    refine ⟨S, δ, _, QX, rfl, R, hE, hw, fun S1 d1 v1 l1 R1 r1 w1 => ⟨tyD_rep R1 r1 w1.1, ?_⟩, hx⟩
    exact ⟨S1, δ, _, QX, rfl, R1, hE.mono l1.1, w1.2, fun S2 ds vs l2 R2 r2 w2 => ⟨S2, d1, ds, QM, rfl, R2, r1.mono l2.1, r2, w2, hq.le (l1.trans l2)⟩, hx.le l1⟩
/-! ### a method of an own class -/
theorem own_call {M : Model} {A : Around} {env : PySem.Env} {o : Expr} {name : Str} {apos pos : Pos} {args : List Expr} {kws : List Keyword} {Q : Value → Shared → Prop} {E : Value → Shared → Prop} {s : Shared}
    (hb : attributeBase o name env (eval o env) = eval o env) (hform : methodCallForm (args.length + kws.length) (backTo pos (starEach args env)) (backToKw pos (keywordEach kws env)) = true) (hl : (apos.endLine == pos.line) = true)
    (h : wpAny M A (eval o env) (fun ov s1 => ∀ pl : Sem Bool, wpAny M A (getMethod ov name pl) (fun fx s2 => wpAny M A (callWith pos fx.1 fx.2 (backTo pos (starEach args env)) (backToKw pos (keywordEach kws env))) Q E s2) E s1) E s) :
    wpAny M A (eval (.Call (.Attribute o name apos) args kws pos) env) Q E s := by
  have hp : methodCallPos true o env apos pos = pure pos := by unfold methodCallPos; simp [hl]
  rw [arm_eval_Call, hb]
  refine wpAny_bind (wpAny_mono h (fun ov s1 h1 => ?_) fun _ _ e => e)
  refine wpAny_bind (wpAny_standAt ?_)
  unfold methodCall
  rw [hform]
  refine wpAny_bind (wpAny_holding (wpAny_mono (h1 _) (fun fx s2 h2 => ?_) fun _ _ e => e))
  rw [hp]
  exact wpAny_bind (wpAny_pure h2)
theorem insD_eq {d : D} {μ : Sto} {k c : Nat} {fs : List (Str × D)} (h : insD d μ = some (k, c, fs)) : d = .obj k ∧ μ.cell k = some (.ins c fs) := by
  unfold insD at h
  split at h
  · split at h
    · rename_i e
      cases h
      exact ⟨rfl, e⟩
    · cases h
  · cases h
theorem repP_lookup {K : PySem.W.Frag} {w : Vw} {f : Str} : ∀ {fs : List (Str × D)} {es : List (Str × V)}, RepP K w fs es → match fs.lookup f with
    | some d => ∃ v, es.lookup f = some v ∧ Rep K w d v
    | none => es.lookup f = none
  | [], es, h => by
    have e : es = [] := h
    subst e
    rfl
  | (g, d) :: fs, es, h => by
    obtain ⟨x, r, rfl, h1, h2⟩ := h
    rw [List.lookup_cons, List.lookup_cons]
    cases f == g with
    | true => exact ⟨x, rfl, h1⟩
    | false => exact repP_lookup h2
theorem metOf_eq {m : Str} {tbl : List (Nat × Spec)} {d : D} {μ : Sto} {sp : Spec} (h : metOf m tbl d μ = some sp) : ∃ k c fs, d = .obj k ∧ μ.cell k = some (.ins c fs) ∧ fs.lookup m = none ∧ tbl.lookup c = some sp := by
  unfold metOf at h
  split at h
  · rename_i j c fs e
    obtain ⟨e1, e2⟩ := insD_eq e
    split at h
    · rename_i e3
      exact ⟨j, c, fs, e1, e2, e3, h⟩
    · cases h
  · cases h
theorem Gd.blk {k : Nat} {top : Bool} (G : Gd X top k) (s : Shared) (H : Hp) (scope : Scope) (ce : PySem.Env) (fp : List Addr) : Gd (X.blk s H scope ce fp) false k := ⟨G.calm, G.nd, G.room, fun h => by cases h⟩
theorem takesF {X : Cx} : Takes X W0 := takes0
end
end M
end

section
set_option Elab.async false
set_option linter.all false
set_option maxRecDepth 100000
set_option maxHeartbeats 4000000
set_option autoImplicit false
/-! M: all(test for x in what is walked), the test may read the module's names and captured ones. -/
namespace M
open PySem PySem.Spec PyProof.Rows L2
/-- the element is a test, known by the turn; Gk: what is known of the heap -/
def EltQ (X : Cx) (scope : Scope) (cl : List (Str × Addr)) (x : Str) (elt : Expr) (Pi : Nat → Value → Prop) (pb : Nat → Bool) (Gk : Heap → Prop) : Prop :=
  ∀ (ce : PySem.Env) (A1 : Around) (E1 : Value → Shared → Prop) (i : Nat) (v : Value) (s2 : Shared) (m2 : Str → Option Value), A1.handled = none → ce.scope = scope → ce.globals = mainGlobals → ce.cells = cl → Pi i v → s2.heap.Ns ce.locals m2 → m2 x = some v → Gk s2.heap →
    wpAny (model X.prog X.w) A1 (eval elt ce) (fun y s3 => y = .bool (pb i) ∧ Keeps s2 s3) E1 s2
/-- a walk has just begun at s1, its iterator the object o that was laid last -/
structure Begun (X : Cx) (pins : List (Addr × Obj)) (σ : L2.St) (P : Addr) (scope : Scope) (x : Str) (elt : Expr) (s1 : Shared) (o : Obj) (H1 : Hp) (n : Nat) (pb : Nat → Bool) : Prop where
  inv : L2.Inv X pins σ H1 s1
  tab : GxR.TabG H1 P
  wk : ∃ (Pi : Nat → Value → Prop) (St : Nat → Heap → Prop) (Gk : Heap → Prop), (∀ A1 : Around, A1.handled = none → Walks X.prog X.w A1 s1.heap.objs.size [s1.heap.objs.size] [s1.heap.objs.size] n Pi St) ∧ St 0 (s1.heap.push o) ∧
    EltQ X scope (cloFrom X.env.cells scope.names []) x elt Pi pb Gk ∧ ∀ h', (∀ b u, b ≠ P → s1.heap.get? b = some u → h'.get? b = some u) → Gk h'
section
variable {X : Cx} {pins : List (Addr × Obj)} {σ : L2.St} {s : Shared} {c P : Addr} {elt iter : Expr} {x : Str} {px p pos gpos : Pos} {scope : Scope} {k : Nat}
theorem all_gen {Q : VK} {H : Hp} (I0 : L2.Inv X pins σ H s) (hr : Room k X.A) (hg : Gl X "all") (hm : X.mg "all" = none) (TB : GxR.TabB X.base X.mg c P) (hcode : X.env.code = .ref c) (S : GxR.GenS X.env scope x) (hs : ∀ v, genFold iter X.env v = pure v)
    (h : ∀ Q0 : Value → Shared → Prop, (∀ s1 o H1 n pb, Begun X pins σ P scope x elt s1 o H1 n pb → (∀ H2, GxR.Tabbed P H1 H2 → Q (.bl ((List.range n).all pb)) H2) → Q0 (.ref s1.heap.objs.size) { s1 with heap := s1.heap.push o }) →
      wpAny (model X.prog X.w) X.A (eval iter X.env) (fun v s2 => wpAny (model X.prog X.w) X.A (pyIter v) Q0 X.xe s2) X.xe s) :
    wpAny (model X.prog X.w) X.A (eval (.Call (.Name "all" p) [.GeneratorExp elt [⟨.Name x px, iter, [], 0⟩] scope gpos] [] pos) X.env) (EP X pins σ Q) X.xe s := by
  have e0 : starEach [.GeneratorExp elt [⟨.Name x px, iter, [], 0⟩] scope gpos] X.env = (false, eval (.GeneratorExp elt [⟨.Name x px, iter, [], 0⟩] scope gpos) X.env) :: starEach [] X.env := rfl
  refine wpAny_Call_Name_kw (ld_blt I0 hg hm (show bootBuiltins "all" = some (.builtin "all") by decide +kernel) (PyProof.Rows.callWith_builtin1 ?_ e0 rfl))
  rw [e0]
  show wpAny _ _ (spliced ((false, eval (.GeneratorExp elt [⟨.Name x px, iter, [], 0⟩] scope gpos) X.env) :: backTo pos (starEach [] X.env))) _ _ s
  refine Calls.spliced_cons ?_
  refine wpAny_GeneratorExp_walksQ hr.hd S.co (closure_ok S.free) S.cell S.dot S.loc S.kind (by have := hr.dp; omega) ?_ hs
  refine thn (h _ (fun s1 o H1 n pb B hQ => ?_)) fun _ _ z => z
  obtain ⟨I1, ⟨ps, hP, ht⟩, Pi, St, Gk, W, hst, hel, hG⟩ := B
  have tabAt : s1.heap.get? P = some { cls := .none, data := .fields ps } := I1.hok P _ hP
  have ltP : P < s1.heap.objs.size := Heap.lt_size tabAt
  have tabAt2 : (s1.heap.push o).get? P = some { cls := .none, data := .fields ps } := Heap.get?_push_of_some _ tabAt
  have cd : PySem.W.CodeHd (s1.heap.push o) c P := TB.code.keeps fun b u e => Heap.get?_push_of_some _ (I1.bk b u e)
  have lim : (s1.heap.push o).NoLimit := I1.nolimit.push o
  have szO : (s1.heap.push o).objs.size = s1.heap.objs.size + 1 := Heap.size_push ..
  refine ⟨lim, ?_⟩
  -- whatever code object the expression gets: the table may have grown
  have go : ∀ (code : Value) (h3 : Heap) (tk : Nat) (ps3 : Array Value), Heap.ExtBut P (s1.heap.push o) h3 → (s1.heap.push o).objs.size ≤ h3.objs.size → h3.get? P = some { cls := .none, data := .fields ps3 } → (∃ more, ps3 = ps ++ more) → TriplesOk ps3.toList →
      wpAny (model X.prog X.w) X.A (builtinsFor X.env.globals X.env.builtins) (fun bi s4 =>
        ∃ (Ia : Addr) (fp wr : List Addr) (n0 : Nat) (Pf : Nat → Value → Prop) (St0 : Nat → Heap → Prop) (pz : Nat → Bool) (F : Nat → Value → Prop), Value.ref s1.heap.objs.size = .ref Ia ∧ (∀ A1 : Around, A1.handled = none → Walks X.prog X.w A1 Ia fp wr n0 Pf St0) ∧ St0 0 s4.heap ∧ (∀ b ∈ fp, b < s4.heap.objs.size) ∧ s4.heap.NoLimit ∧ cStatics ∉ wr ∧
          (∀ href : Heap, (∀ b u, s4.heap.get? b = some u → href.get? b = some u) →
            QuietGen X.prog X.w (genEnv scope (cloFrom X.env.cells scope.names []) s4.heap.objs.size code bi X.env) x [] elt (List.range s4.heap.objs.size) wr Pf pz F href) ∧
          (∀ a h5 tk gs, gs.bare = true → s4.heap.objs.size < a → h5.objs.size = a + 1 → (∀ b u, s4.heap.get? b = some u → h5.get? b = some u) →
            WalksS X.prog X.w X.A.in4 a (a :: s4.heap.objs.size :: List.range s4.heap.objs.size) (s4.heap.objs.size :: wr) (GenOnlyQ s4.gens.size) (passing pz n0 0).length
              (fun j y => ∃ i, (passing pz n0 0)[j]? = some i ∧ F i y) (GenAt X.prog X.w X.A.in4 a s4.gens.size s4.heap.objs.size (List.range s4.heap.objs.size) wr pz n0 F) →
            GenAt X.prog X.w X.A.in4 a s4.gens.size s4.heap.objs.size (List.range s4.heap.objs.size) wr pz n0 F 0 { s4 with gens := s4.gens.push gs, toks := tk, heap := h5 } →
            wpAny (model X.prog X.w) X.A (spliced (backTo pos (starEach [] X.env))) (fun vs s2 => wpAny (model X.prog X.w) X.A (call (Value.builtin "all") (Value.ref a :: vs)) (EP X pins σ Q) X.xe s2) X.xe { s4 with gens := s4.gens.push gs, toks := tk, heap := h5 })) X.xe { s1 with heap := h3, toks := tk } := by
    intro code h3 tk ps3 hx hsz hP3 hmore ht3
    obtain ⟨bm, ob, e1, e2, e3, e4, e5, e6, e7, e8⟩ := TB.bm
    have stP : cStatics ≠ P := fun e => by
      obtain ⟨_, hns, _⟩ := I1.nolimit
      obtain ⟨o', es, ep, ho, hd, _⟩ := hns
      rw [e, tabAt] at ho
      cases ho
      cases hd
    have stl : cStatics < s1.heap.objs.size := let ⟨_, hns, _⟩ := I1.nolimit; hns.lt
    have keep3 : ∀ b u, b ≠ P → s1.heap.get? b = some u → h3.get? b = some u := fun b u hb e => hx b u hb (Heap.get?_push_of_some _ e)
    have hle : s1.heap.objs.size ≤ h3.objs.size := by
      rw [szO] at hsz
      exact Nat.le_of_succ_le hsz
    have neO : s1.heap.objs.size ≠ P := fun z => Nat.ne_of_lt ltP z.symm
    refine wpAny_builtinsFor (m := X.mg) (by rw [I1.ok.glob]; exact ((I1.mod.glob.keeps I1.bk).push o).extBut hx TB.gP) e1 e2 (keep3 _ _ e4 (I1.bk _ _ e5)) e6 e7 e8 ?_
    refine ⟨s1.heap.objs.size, [s1.heap.objs.size], [s1.heap.objs.size], n, Pi, St, (fun _ => true), (fun i y => y = .bool (pb i)), rfl, W, ?_, ?_, lim.extBut hx stP, ?_, ?_, ?_⟩
    · refine (W X.A hr.hd).frame _ _ _ hst fun b hb u e => hx b u (fun z => ?_) e
      rw [List.mem_singleton] at hb
      exact neO (hb.symm.trans z)
    · intro b hb
      rw [List.mem_singleton] at hb
      rw [hb]
      show s1.heap.objs.size < h3.objs.size
      omega
    · intro z
      rw [List.mem_singleton] at z
      exact Nat.ne_of_lt stl z
    · intro href hk
      refine ⟨fun A1 E1 i v s2 m2 hA hPv hn hm hkk => ?_, fun A1 E1 i v s2 m2 hA hPv hp hn hm hkk => ?_⟩
      · simp only [List.forIn_nil]
        exact wpAny_pure ⟨rfl, GxR.keeps_refl _⟩
      · have kept : ∀ b u, b ≠ P → s1.heap.get? b = some u → s2.heap.get? b = some u := fun b u hb e => by
          have hl := Heap.lt_size e
          refine hkk b (List.mem_range.mpr ?_) (fun z => ?_) u (hk b u (keep3 b u hb e))
          · exact Nat.lt_of_lt_of_le hl hle
          · rw [List.mem_singleton] at z
            exact Nat.ne_of_lt hl z
        exact hel _ A1 E1 i v s2 m2 hA rfl I1.ok.glob rfl hPv hn hm (hG _ kept)
    · intro g h5 tk5 gs hgb hag hsz5 hk5 W5 hat
      simp only [GxR.passing_true, List.length_range] at W5
      refine Calls.spliced_nil (call_all_walkS ?_)
      have W6 := W5.in4_1
      refine W6.self 0 _ _ _ hat ⟨g, _, _, _, _, _, _, pb, rfl, W6, hat, ?_, fun s' hm => ?_⟩
      · intro j y sj Qj Ej hy hQj
        obtain ⟨i, hij, rfl⟩ := hy
        obtain ⟨hj, ej⟩ := List.getElem?_eq_some_iff.mp hij
        rw [List.getElem_range] at ej
        subst ej
        exact wpAny_truthy_bool hQj
      · obtain ⟨more, em⟩ := hmore
        have nwr : ∀ b u, s1.heap.get? b = some u → b ∉ h3.objs.size :: [s1.heap.objs.size] := fun b u e hb => by
          have hl := Heap.lt_size e
          rcases List.mem_cons.mp hb with z | z
          · have z : b = h3.objs.size := z
            rw [z] at hl
            exact absurd (Nat.lt_of_lt_of_le hl hle) (Nat.lt_irrefl _)
          · rw [List.mem_singleton] at z
            exact Nat.ne_of_lt hl z
        have J := GxR.inv_tab (more := more) (h' := s'.heap) (g' := s'.gens) (d' := s'.drawn) (t' := s'.toks) I1 hP (fun b u hb e => hm.heap b u (nwr b u e) (hk5 b u (keep3 b u hb e)))
          (by rw [← em]; exact hm.heap P _ (nwr P _ tabAt) (hk5 P _ hP3)) (AllBare.movedS (I1.bare.push hgb) hm)
        rw [GxR.sh_eta s1 s' hm.os] at J
        exact ⟨.bl _, _, J, rfl, hQ _ ⟨⟨ps ++ more, upd_same, by rw [← em]; exact ht3⟩, fun b hb => upd_ne hb⟩⟩
  cases hf : codeAmong gpos ps.toList with
  | none =>
    refine wpAny_genexprCodeX hcode (cd.code tabAt2 ht) (cd.tab tabAt2) hf fun c1 h1 tk hx hge hlt hco _ htab _ => ?_
    obtain ⟨o1, vs, f1, tf, fl, tg, inF, tx, tt, op, _, _, _, _, _, _, _, _, _, htr, _⟩ := hco
    exact go _ h1 tk _ hx (Nat.le_trans hge (Nat.le_of_lt hlt)) htab.2 ⟨_, rfl⟩ htr
  | some cv =>
    refine wpAny_genexprCode_hit hcode (cd.code tabAt2 ht) hf ?_
    exact go cv (s1.heap.push o) s1.toks ps (Heap.ExtBut.refl _ _) (Nat.le_refl _) tabAt2 ⟨#[], by simp⟩ ht

theorem Rl.tabbed {W : Wd} {S : Ss} {P : Addr} {H2 : Hp} (R : Rl W S) (hP : P ∈ W.T) (h : GxR.Tabbed P S.H H2) : S.le { S with H := H2 } ∧ Rl W { S with H := H2 } := by
  obtain ⟨⟨ps2, e2, t2⟩, hne⟩ := h
  obtain ⟨ps, e1, t1⟩ := R.tab P hP
  have nP : ¬ S.own P := (hid_some.mp e1).2
  have l : S.le { S with H := H2 } := by
    refine ⟨⟨fun a o e => ?_, fun _ _ => rfl, Nat.le_refl _⟩, rfl⟩
    have e : hid S a = some o := e
    obtain ⟨g1, g2⟩ := hid_some.mp e
    by_cases ha : a = P
    · subst ha
      rw [e1] at e
      cases e
      exact .inr ⟨ps, ps2, rfl, hid_some.mpr ⟨e2, g2⟩, fun _ => t2⟩
    · exact .inl (hid_some.mpr ⟨(hne a ha).trans g1, g2⟩)
  refine ⟨l, R.inj, R.lt, fun k c e => (R.ok k c e).mono l.1 (hne _ fun z => nP (.inl ⟨k, c, e, z⟩)), fun a ha => tab_ext l.1.1 (R.tab a ha), fun a u e => ⟨(hne a fun z => nP (.inr ⟨u, by rw [← z]; exact e⟩)).trans (R.prv a u e).1, (R.prv a u e).2⟩, ?_⟩
  intro z
  obtain ⟨z1, qs, z2, z3, z4⟩ := R.lam z
  have stay : ∀ a o, a ≠ P → hid S a = some o → hid { S with H := H2 } a = some o := fun a o ha e => by
    obtain ⟨g1, g2⟩ := hid_some.mp e
    exact hid_some.mpr ⟨(hne a ha).trans g1, g2⟩
  have nL : W.cls 1000 ≠ P := fun q => z1 (by rw [q]; exact hP)
  refine ⟨z1, qs, stay _ _ nL z2, z3, fun pos cv hc => ?_⟩
  obtain ⟨c, e3, e4⟩ := z4 pos cv hc
  refine ⟨c, e3, stay _ _ (fun q => ?_) e4⟩
  rw [q, e1] at e4
  exact LamX.codeO_ne _ (Option.some.inj e4).symm
theorem genFold_of {e : Expr} {env : PySem.Env} (h1 : isSetE e = false) (h2 : isSeqE e = false) : ∀ v, genFold e env v = pure v := by
  intro v
  cases e <;> first | rfl | (cases (show true = false from h1); done) | cases (show true = false from h2)
theorem all_ext {n : Nat} {f g : Nat → Bool} (h : ∀ i, i < n → f i = g i) : (List.range n).all f = (List.range n).all g := by
  rw [Bool.eq_iff_iff, List.all_eq_true, List.all_eq_true]
  exact ⟨fun z i hi => by rw [← h i (List.mem_range.mp hi)]; exact z i hi, fun z i hi => by rw [h i (List.mem_range.mp hi)]; exact z i hi⟩
variable {T : List Addr} {cls : Nat → Addr} {Wx : WX}
theorem PEs.one {W : Wd} {as : IR} {e : Expr} {Wx : WX} (h : PEs X W Wx as [e]) : ∃ a, as = .cons a .nil ∧ isStar e = false ∧ PE X e (DE W Wx a) := by
  cases as with
  | cons a r =>
    obtain ⟨h1, h2, h3⟩ := h
    cases r with
    | nil => exact ⟨a, rfl, h1, h2⟩
    | cons _ _ => exact (show False from h3).elim
    | _ => exact (show False from h3).elim
  | nil => cases (show [e] = [] from h)
  | _ => exact (show False from h).elim
theorem PEs.two {W : Wd} {as : IR} {e e' : Expr} {Wx : WX} (h : PEs X W Wx as [e, e']) : ∃ a a', as = .cons a (.cons a' .nil) ∧ isStar e = false ∧ PE X e (DE W Wx a) ∧ isStar e' = false ∧ PE X e' (DE W Wx a') := by
  cases as with
  | cons a r =>
    obtain ⟨h1, h2, h3⟩ := h
    obtain ⟨a', rfl, h4, h5⟩ := PEs.one h3
    exact ⟨a, a', rfl, h1, h2, h4, h5⟩
  | nil => cases (show [e, e'] = [] from h)
  | _ => exact (show False from h).elim
theorem PEs.three {W : Wd} {as : IR} {e e' e'' : Expr} {Wx : WX} (h : PEs X W Wx as [e, e', e'']) : ∃ a a' a'', as = .cons a (.cons a' (.cons a'' .nil)) ∧ isStar e = false ∧ PE X e (DE W Wx a) ∧ isStar e' = false ∧ PE X e' (DE W Wx a') ∧ isStar e'' = false ∧ PE X e'' (DE W Wx a'') := by
  cases as with
  | cons a r =>
    obtain ⟨h1, h2, h3⟩ := h
    obtain ⟨a', a'', rfl, h4, h5, h6, h7⟩ := PEs.two h3
    exact ⟨a, a', a'', rfl, h1, h2, h4, h5, h6, h7⟩
  | nil => cases (show [e, e', e''] = [] from h)
  | _ => exact (show False from h).elim
theorem PEs.none {W : Wd} {as : IR} {Wx : WX} (h : PEs X W Wx as []) : as = .nil := by
  cases as with
  | cons a r => exact (show False from h).elim
  | nil => rfl
  | _ => exact (show False from h).elim
/-- all(v in g for v in <text>), g a module's text z -/
def eAllS (z : Str) : EvE := fun _ ds μ Q _ => match ds with
  | [.str s] => Q (.bl (s.cps.toList.all fun c => decide (c ∈ z.cps.toList))) μ
  | _ => False
def fAllS (gz : Str) : XF := fun _ sc t e => match e with
  | .Call (.Name y _) [.GeneratorExp (.Compare (.Name v _) [.In] [.Name g _] _) [⟨.Name v' _, iter, [], as⟩] scope _] [] _ =>
    if as = 0 ∧ y = ("all" : Str) ∧ glB sc y = true ∧ t = true ∧ v = v' ∧ gz = g ∧ okName v = true ∧ okName g = true ∧ noFree scope = true ∧ scope.kind = .function ∧ scope.isCoroutine = false ∧ scope.names.lookup (".0" : Str) = some .local ∧ scope.names.lookup v = some .local ∧ scope.names.lookup g = some .globalImplicit ∧ isSetE iter = false ∧ isSeqE iter = false then some [iter] else none
  | _ => none
/-- all(v in g for v in range(a, b)), g a captured list -/
def eAllN (i : Nat) : EvE := fun δ ds μ Q _ => match ds, δ[i]? with
  | [.int m, .int n], some (some d) => match asLM d μ with
    | some ys => (-(2 ^ 62) ≤ m ∧ m < 2 ^ 62 ∧ -(2 ^ 62) ≤ n ∧ n < 2 ^ 62) ∧ ys.all flatD = true ∧ Q (.bl ((intsD m (n - m).toNat).all fun e => ys.any fun y => deq y e)) μ
    | none => False
  | _, _ => False
def fAllN (i : Nat) : XF := fun N sc t e => match e with
  | .Call (.Name y _) [.GeneratorExp (.Compare (.Name v _) [.In] [.Name g _] _) [⟨.Name v' _, .Call (.Name rg _) [e1, e2] [] _, [], as⟩] scope _] [] _ =>
    if as = 0 ∧ y = ("all" : Str) ∧ glB sc y = true ∧ rg = ("range" : Str) ∧ glB sc rg = true ∧ t = true ∧ v = v' ∧ okName v = true ∧ okName g = true ∧ (scope.names.all fun y => !decide (y.2 = .cell)) = true ∧ (scope.names.all fun y => !decide (y.2 = .free) || decide (sc.names.lookup y.1 = some .cell)) = true ∧ scope.kind = .function ∧ scope.isCoroutine = false ∧ scope.names.lookup (".0" : Str) = some .local ∧ scope.names.lookup v = some .local ∧ scope.names.lookup g = some .free ∧ N[i]? = some g ∧ sc.names.lookup g = some .cell ∧ isStar e1 = false ∧ isStar e2 = false then some [e1, e2] else none
  | _ => none
theorem d_allS {it : Expr} {f : XF} {v g : Str} {p1 p2 p3 p4 p5 : Pos} {z : Str} {ci : IR} (hr : Room k X.A) (hcd : CodeOk X T) (hn : X.mg "all" = none) (hz : ∃ t, X.mg g = some (.str z t)) (hi : PE X it (DE (wd X T cls) Wx ci)) (hg : Gl X "all")
    (h1 : okName v = true) (h2 : okName g = true) (h3 : noFree scope = true) (h4 : scope.kind = .function) (h5 : scope.isCoroutine = false) (h6 : scope.names.lookup (".0" : Str) = some .local) (h7 : scope.names.lookup v = some .local) (h8 : scope.names.lookup g = some .globalImplicit) (h9 : isSetE it = false) (h10 : isSeqE it = false) :
    PE X (.Call (.Name "all" p1) [.GeneratorExp (.Compare (.Name v p2) [.In] [.Name g p3] p4) [⟨.Name v p5, it, [], 0⟩] scope gpos] [] pos) (DE (wd X T cls) Wx (.nod f (eAllS z) (.cons ci .nil))) := by
  obtain ⟨c1, P, hcode, TB, hP⟩ := hcd
  have nf : ∀ y ∈ scope.names, y.2 ≠ .cell ∧ y.2 ≠ .free := fun y hy => by
    have q := List.all_eq_true.mp h3 y hy
    refine ⟨fun e => ?_, fun e => ?_⟩ <;> (rw [e] at q; cases q)
  refine ⟨fun pins s σ H Q I h => ?_⟩
  refine all_gen I hr hg hn TB hcode ⟨h4, h5, fun y hy => (nf y hy).1, h6, h7, fun y hy e => absurd e (nf y hy).2⟩ (genFold_of h9 h10) fun Q0 hQ0 => ?_
  have hd : DE (wd X T cls) Wx ci σ H fun u H1 => ∃ a : Str, u = .str a ∧ GxR.TabG H1 P ∧ ∀ H2, GxR.Tabbed P H1 H2 → Q (.bl (a.cps.toList.all fun c => decide (c ∈ z.cps.toList))) H2 := by
    obtain ⟨S, δ, QM, QX, rfl, R, hE, hw, hq, hx⟩ := h
    simp only [wpE, wpA] at hw
    refine ⟨S, δ, _, QX, rfl, R, hE, hw, fun S1 d1 v1 l1 R1 r1 w1 => ?_, hx⟩
    dsimp only [eAllS] at w1
    split at w1
    · rename_i a hds
      cases hds
      refine ⟨a, r1, R1.tabG hP, fun H2 hT => ?_⟩
      obtain ⟨l2, R2⟩ := R1.tabbed hP hT
      exact hq { S1 with H := H2 } (.bl _) _ (l1.trans l2) R2 rfl w1
    · exact w1.elim
  refine thn (hi.run pins s σ H _ I hd) fun u s1 ⟨v1, H1, I1, r1, a, e1, tb, q⟩ => ?_
  subst e1
  obtain ⟨t, rfl⟩ := r1
  refine wpAny_pyIter_str fun o St W hst => hQ0 s1 o H1 a.cps.size (GxR.trF (fun c => decide (c ∈ z.cps.toList)) a.cps.toList) ⟨I1, tb, SignAt a, St, fun hh => hh.Ns mainGlobals X.mg, W, hst, ?_, fun h' hk => ?_⟩ fun H2 hT => ?_
  · intro ce A1 E1 i u s2 m2 hA hs hgl hcl hPi hns hm hG
    obtain ⟨cc, tt, hcc, rfl⟩ := hPi
    refine wpAny_Compare1 (wpAny_Name (wpAny_loadName_local (by rw [hs]; exact h4) (show ce.scope.names.lookup v = some .local by rw [hs]; exact h7) hns hm ?_) (okN h1).1) (by rfl)
    obtain ⟨tz, hz⟩ := hz
    refine Calls.Name_function_global (by rw [hs]; exact h4) (show ce.scope.names.lookup g = some .globalImplicit by rw [hs]; exact h8) (Calls.loadGlobal_global (by rw [hgl]; exact hG) hz ?_) (okN h2).1
    refine PyProof.Rows.in_str ⟨?_, GxR.keeps_refl _⟩
    have e9 : a.cps.toList[i]? = some cc := by rw [Array.getElem?_toList]; exact hcc
    rw [GxR.trF_some e9, PySem.StrLaws.found_one z cc]
  · refine I1.mod.glob.keeps fun b u e => hk b u (fun zz => ?_) (I1.bk b u e)
    obtain ⟨ps, hp, _⟩ := tb
    have := (I1.bs b u e).2
    rw [zz, hp] at this
    cases this
  · rw [GxR.all_signs a]
    exact q H2 hT
theorem d_allN {f : XF} {i : Nat} {ea eb : Expr} {v g : Str} {p1 p2 p3 p4 p5 p6 p7 : Pos} {ca cb : IR} (hr : Room k X.A) (hcd : CodeOk X T) (hn : X.mg "all" = none) (hrn : X.mg "range" = none) (ha : PE X ea (DE (wd X T cls) Wx ca)) (hb : PE X eb (DE (wd X T cls) Wx cb)) (hg : Gl X "all") (hgr : Gl X "range")
    (h1 : okName v = true) (h2 : okName g = true) (h3 : ∀ y ∈ scope.names, y.2 ≠ .cell) (h3' : ∀ y ∈ scope.names, y.2 = .free → X.env.scope.names.lookup y.1 = some .cell) (h4 : scope.kind = .function) (h5 : scope.isCoroutine = false) (h6 : scope.names.lookup (".0" : Str) = some .local) (h7 : scope.names.lookup v = some .local) (h8 : scope.names.lookup g = some .free)
    (hN : X.N[i]? = some g) (hc : X.env.scope.names.lookup g = some .cell) (hs1 : isStar ea = false) (hs2 : isStar eb = false) :
    PE X (.Call (.Name "all" p1) [.GeneratorExp (.Compare (.Name v p2) [.In] [.Name g p3] p4) [⟨.Name v p5, .Call (.Name "range" p6) [ea, eb] [] p7, [], 0⟩] scope gpos] [] pos) (DE (wd X T cls) Wx (.nod f (eAllN i) (.cons ca (.cons cb .nil)))) := by
  obtain ⟨c1, P, hcode, TB, hP⟩ := hcd
  refine ⟨fun pins s σ H Q I h => ?_⟩
  refine all_gen I hr hg hn TB hcode ⟨h4, h5, h3, h6, h7, fun y hy e => I.ok.has y.1 (.inl (h3' y hy e))⟩ (fun _ => rfl) fun Q0 hQ0 => ?_
  have hA : PA X [ea, eb] (tCons (DE (wd X T cls) Wx ca) (tCons (DE (wd X T cls) Wx cb) tNil)) := pa_cons ha (pa_cons hb pa_nil (star_of hs2)) (star_of hs1)
  have hd : (tCons (DE (wd X T cls) Wx ca) (tCons (DE (wd X T cls) Wx cb) tNil)) σ H fun vs H1 => ∃ (m n : Int) (a : Addr) (xs : List V) (ys : List D) (vw : Vw), vs = [.int m, .int n] ∧ (-(2 ^ 62) ≤ m ∧ m < 2 ^ 62 ∧ -(2 ^ 62) ≤ n ∧ n < 2 ^ 62) ∧ σ[i]? = some (some (.ref a)) ∧ SqL X.K H1 a xs ∧ Reps X.K vw ys xs ∧ ys.all flatD = true ∧ GxR.TabG H1 P ∧
      ∀ H2, GxR.Tabbed P H1 H2 → Q (.bl ((intsD m (n - m).toNat).all fun e => ys.any fun y => deq y e)) H2 := by
    obtain ⟨S, δ, QM, QX, rfl, R, hE, hw, hq, hx⟩ := h
    simp only [wpE, wpA] at hw
    refine ⟨S, δ, _, QX, rfl, R, hE, hw, fun S1 d1 v1 l1 R1 r1 w1 => ⟨S1, δ, _, QX, rfl, R1, hE.mono l1.1, w1, fun S2 d2 v2 l2 R2 r2 w2 => ?_, hx.le l1⟩, hx⟩
    dsimp only [eAllN] at w2
    split at w2
    · rename_i m n d hds ed
      cases hds
      split at w2
      · rename_i ys e
        obtain ⟨vd, ev, rv⟩ := (hE.mono (l1.trans l2).1).2 i d ed
        obtain ⟨a, xs, e1, g1, q1⟩ := asLM_rep R2 rv e
        have f1 : v1 = .int m := r1
        have f2 : v2 = .int n := r2
        subst f1 f2 e1
        refine ⟨m, n, a, xs, ys, S2.vw, rfl, w2.1, ev, SqL.of g1, q1, w2.2.1, R2.tabG hP, fun H2 hT => ?_⟩
        obtain ⟨l3, R3⟩ := R2.tabbed hP hT
        exact hq { S2 with H := H2 } (.bl _) _ ((l1.trans l2).trans l3) R3 rfl w2.2.2
      · exact w2.elim
    · exact w2.elim
  have hst : starEach [ea, eb] X.env = (false, eval ea X.env) :: starEach [eb] X.env := star_of hs1
  refine wpAny_Call_Name_kw (ld_blt I hgr hrn (show bootBuiltins "range" = some (.type "range") by decide +kernel) (PyProof.Rows.callWith_type1 (thn (hA.run p7 pins s σ H _ I hd) fun us s1 ⟨vs, H1, I1, r1, m, n, a, xs, ys, vw, e1, hb2, ev, hl, rr, hf, tb, q⟩ => ?_) hst (back_of (by simp [hs2]))))
  subst e1
  obtain ⟨u1, u2, rfl, ru1, ru2⟩ := vals2 r1
  obtain ⟨t1, rfl⟩ := ru1
  obtain ⟨t2, rfl⟩ := ru2
  refine call_range_2 (wpAny_pyIter_range (IsRange.new ..) (small_one hb2.1 hb2.2.1 hb2.2.2.1 hb2.2.2.2) ?_)
  generalize hs3 : ({ s1 with heap := s1.heap.push { cls := .type "range", data := .fields #[.int m t1, .int n t2, .int 1 s1.toks] }, toks := s1.toks + 1 } : Shared) = s3
  have I3 : L2.Inv X pins σ H1 s3 := by
    rw [← hs3]
    exact I1.kept (t' := s1.toks + 1) fun b o e => Heap.get?_push_of_some _ e
  have k3 : ∀ b u, s1.heap.get? b = some u → s3.heap.get? b = some u := fun b u e => by
    rw [← hs3]
    exact Heap.get?_push_of_some _ e
  have eh : s1.heap.push { cls := .type "range", data := .fields #[.int m t1, .int n t2, .int 1 s1.toks] } = s3.heap := by rw [← hs3]
  obtain ⟨cg, hcg, hcellg⟩ : ∃ c, X.env.cells.lookup g = some c ∧ s3.heap.IsCell c (some (.ref a)) := by
    obtain ⟨mm, hn2, hl2⟩ := I3.loc
    obtain ⟨u, ru, lk⟩ := hl2 i g (.ref a) hN ev (.inr (.inl hc))
    rcases lk with ⟨kk, _⟩ | ⟨_, c, e, zc⟩
    · have kk : X.env.scope.names.lookup g = some .local := kk
      rw [hc] at kk
      cases kk
    · cases ru
      exact ⟨c, e, zc⟩
  obtain ⟨its, rv, pl, hz⟩ := I3.list hl
  have nf : ∀ b u, H1 b = none → s3.heap.get? b = some u → b ≠ P := fun b u e _ zz => by
    obtain ⟨ps, hp, _⟩ := tb
    rw [zz, hp] at e
    cases e
  have aP : a ≠ P := fun zz => by
    obtain ⟨o, n0, ho, hcl, _⟩ := pl
    obtain ⟨ps, hp, _⟩ := tb
    have := I3.hok P _ hp
    have this : s3.heap.get? P = some { cls := .none, data := .fields ps } := this
    rw [← zz, ho] at this
    cases this
    cases hcl
  refine hQ0 s3 _ H1 (n - m).toNat (fun j => ys.any fun y => deq y (.int (m + j))) ⟨I3, tb, fun j u => ∃ t, u = .int (m + (j : Nat) * 1) t, fun j h => IsRangeIter h s3.heap.objs.size (m + (j : Nat) * 1) (((n - m).toNat : Int) - (j : Nat)) 1, fun hh => hh.IsCell cg (some (.ref a)) ∧ PlainL hh a its.toArray, fun A1 hA => Walks.range hA _ m 1 _, ?_, ?_, fun h' hk => ?_⟩ fun H2 hT => ?_
  · show IsRangeIter _ _ (m + ((0 : Nat) : Int) * 1) (((n - m).toNat : Int) - ((0 : Nat) : Int)) 1
    have e2 : (((n - m).toNat : Nat) : Int) - ((0 : Nat) : Int) = Builtin.Range.rangeSize m n 1 := by rw [rangeSize_one]; split <;> omega
    rw [e2, show m + ((0 : Nat) : Int) * 1 = m by omega]
    exact Heap.get?_push_size _ rfl
  · intro ce A1 E1 j u s2 m2 hA hs hgl hcl hPi hns hm hG
    obtain ⟨tt, rfl⟩ := hPi
    obtain ⟨cl1, pl2⟩ := hG
    have hcg2 : ce.cells.lookup g = some cg := by
      rw [hcl]
      have hy : (g, NameKind.free) ∈ scope.names := PySem.mem_of_lookup h8
      obtain ⟨c', e'⟩ := mem_lookup (cloFrom_has (cells := X.env.cells) (acc := []) hy)
      rcases cloFrom_mem (PySem.mem_of_lookup e') with z | ⟨_, z⟩
      · cases z
      · rw [e', z, hcg]
        rfl
    refine wpAny_Compare1 (wpAny_Name (wpAny_loadName_local (by rw [hs]; exact h4) (show ce.scope.names.lookup v = some .local by rw [hs]; exact h7) hns hm ?_) (okN h1).1) (by rfl)
    refine wpAny_Name (wpAny_loadName_free (by rw [hs]; exact h4) (show ce.scope.names.lookup g = some .free by rw [hs]; exact h8) hcg2 cl1 ?_ (okN h2).2) (okN h2).1
    refine SeqAt.in_listAt (eqU (.int (m + (j : Nat) * 1))) pl2.isList (fun u' hu => mem_eqAt (x := .int (m + (j : Nat) * 1)) ⟨tt, rfl⟩ rfl rv (flats_rep hf rr) u' (by simpa using hu)) ⟨?_, GxR.keeps_refl _⟩
    have e5 : its.toArray.any (eqU (.int (m + (j : Nat) * 1))) = ys.any fun y => deq y (.int (m + j)) := by
      rw [show its.toArray.any (eqU (.int (m + (j : Nat) * 1))) = its.any (eqU (.int (m + (j : Nat) * 1))) by simp, any_eqU rv (flats_rep hf rr), show m + (j : Nat) * 1 = m + (j : Int) by omega]
      exact flat_any (w := vw) (e := .int (m + j)) rfl rfl hf rr
    rw [e5]
  · obtain ⟨o, n0, ho, h1', h2', h3'⟩ := pl
    refine ⟨?_, ⟨o, n0, hk a o aP ho, h1', h2', h3'⟩⟩
    obtain ⟨oc, hoc, hd⟩ := hcellg
    refine ⟨oc, hk cg oc (fun zz => ?_) hoc, hd⟩
    obtain ⟨ps, hp, _⟩ := tb
    have := I3.freeC g cg hcg
    rw [zz, hp] at this
    cases this
  · have e3 : (List.range (n - m).toNat).all (fun j => ys.any fun y => deq y (.int (m + j))) = (intsD m (n - m).toNat).all fun e => ys.any fun y => deq y e := by
      unfold intsD
      rw [List.all_map]
      rfl
    rw [e3]
    exact q H2 hT
variable {B : Bs} {cd : Prop}
theorem n_allS {gz z : Str} (h0 : cd) (h1 : B.mg "all" = none) (h2 : ∃ t, B.mg gz = some (.str z t)) : NodOk B T cls k cd (fAllS gz) (eAllS z) := by
  intro X top Wx e es as S hf hp
  unfold fAllS at hf
  split at hf
  · rename_i y p1 v p2 g p3 p4 v' p5 iter as0 scope p6 p7
    split at hf
    · rename_i hc
      obtain ⟨rfl, rfl, g1, ht, rfl, rfl, c1, c2, c3, c4, c5, c6, c7, c8, c9, c10⟩ := hc
      cases hf
      obtain ⟨ci, rfl, _, hi⟩ := hp.one
      have hB := S.bs
      subst hB
      exact d_allS S.g.room (S.co h0) h1 h2 hi (gl_of g1) c1 c2 c3 c4 c5 c6 c7 c8 c9 c10
    · cases hf
  · cases hf
theorem n_allN {i : Nat} (h0 : cd) (h1 : B.mg "all" = none) (h2 : B.mg "range" = none) : NodOk B T cls k cd (fAllN i) (eAllN i) := by
  intro X top Wx e es as S hf hp
  unfold fAllN at hf
  split at hf
  · rename_i y p1 v p2 g p3 p4 v' p5 rg p6 e1 e2 p7 as0 scope p8 p9
    split at hf
    · rename_i hc
      obtain ⟨rfl, rfl, g1, rfl, g2, ht, rfl, c1, c2, c3, c3', c4, c5, c6, c7, c8, c9, c10, c11, c12⟩ := hc
      cases hf
      obtain ⟨ca, cb, rfl, _, ha, _, hb⟩ := hp.two
      have hB := S.bs
      subst hB
      refine d_allN S.g.room (S.co h0) h1 h2 ha hb (gl_of g1) (gl_of g2) c1 c2 (fun y hy e => ?_) (fun y hy e => ?_) c4 c5 c6 c7 c8 c9 c10 c11 c12
      · have q := List.all_eq_true.mp c3 y hy
        simp [e] at q
      · have q := List.all_eq_true.mp c3' y hy
        simpa [e] using q
    · cases hf
  · cases hf
end
end M
end

section
set_option Elab.async false
set_option linter.all false
set_option maxRecDepth 100000
set_option maxHeartbeats 4000000
set_option autoImplicit false
/-! M: max(xs, default=d). -/
namespace M
open PySem PySem.Spec PyProof.Rows L2
section
variable {prog : Program} {w : World} {A : Around} {dv : Value}
theorem maxKw_turns {R : Result → Shared → Prop} {I : Addr} {fp wr : List Addr} {n : Nat} {P : Nat → Value → Prop} {St : Nat → Heap → Prop} (W : Walks prog w A.in1 I fp wr n P St) (bt : Nat → Nat → Bool) (gt : CmpOf prog w A.in1 .Gt P bt) (B : Addr) (nB : B ∉ fp) :
    ∀ (m j : Nat) (s : Shared) (old : List Value) (c : Nat), n = j + m → St j s.heap → (j = 0 ∧ old = [] ∨ ∃ u, 0 < j ∧ old = [u, u] ∧ P (argBest bt (j - 1)) u) →
      s.heap.get? B = some { cls := .type "list", dict := none, data := .seq old.toArray c, slots := #[] } →
      (∀ v h' tk, (n = 0 ∧ v = dv ∨ 0 < n ∧ P (argBest bt (n - 1)) v) → (∀ b o, b ∉ wr → b ≠ B → s.heap.get? b = some o → h'.get? b = some o) → R (.ok (.ret v)) { s with heap := h', toks := tk }) →
      codeAny (model prog w) A (.builtin "max.loop" ⟨[.ref I, .none, .ref B], [(Str.ofString "default", dv)]⟩) R s := by
  have wB : B ∉ wr := fun h => nB (W.sub _ h)
  intro m
  induction m with
  | zero =>
    intro j s old c hn st ho hB hR
    have hn : n = j := hn
    subst hn
    refine codeAny_builtin F.entry_max_loop ?_
    rw [Around.under_plainId F.plain_max_loop _]
    refine wpAny_bind (m := seqItems? (.ref B)) (wpAny_seqItems hB rfl ?_)
    refine wpAny_bind (m := tryCatch (pyNext (.ref I)) _) (wpAny_tryCatch (W.done s _ _ st fun h1 t1 k1 => ?_))
    have hB1 := k1 B _ wB hB
    rcases ho with ⟨rfl, rfl⟩ | ⟨u, hj, rfl, pu⟩
    · exact wpAny_bind (m := rule _) (wpAny_rule (wpAny_pure (hR dv _ t1 (.inl ⟨rfl, rfl⟩) fun b o hb _ e => k1 b o hb e)))
    · refine wpAny_bind (m := updateSeq B (fun _ => #[])) (wpAny_updateSeq hB1 rfl (wpAny_bind (wpAny_letGo (wpAny_pure ?_))))
      exact hR u _ t1 (.inr ⟨hj, pu⟩) fun b o hb hbB e => (Heap.get?_update_other _ _ (Ne.symm hbB)).trans (k1 b o hb e)
  | succ m ih =>
    intro j s old c hn st ho hB hR
    have lt : j < n := by omega
    refine codeAny_builtin F.entry_max_loop ?_
    rw [Around.under_plainId F.plain_max_loop _]
    refine wpAny_bind (m := seqItems? (.ref B)) (wpAny_seqItems hB rfl ?_)
    refine wpAny_bind (m := tryCatch (pyNext (.ref I)) _) (wpAny_tryCatch (W.item j s _ _ lt st fun v h1 t1 pv st1 k1 => ?_))
    have hB1 := k1 B _ wB hB
    -- one more turn behind a write to the best's list
    have more : ∀ (f : Array Value → Array Value) (u : Value), f old.toArray = #[u, u] → P (argBest bt j) u →
        codeAny (model prog w) A (.builtin "max.loop" ⟨[.ref I, .none, .ref B], [(Str.ofString "default", dv)]⟩) R { s with heap := h1.update B (Obj.mapSeq f), toks := t1 } := fun f u ef pu =>
      ih (j + 1) _ [u, u] _ (by omega) (W.frame _ _ _ st1 fun b hb o e => (Heap.get?_update_other _ _ (fun z : B = b => nB (by rw [z]; exact hb))).trans e) (.inr ⟨u, Nat.succ_pos j, rfl, pu⟩) (by
          have := Heap.get?_update_self (Obj.mapSeq f) hB1 rfl
          rw [this]

          unfold Obj.mapSeq
          dsimp only
          rw [ef]) fun v' h2 t2 pv' k2 =>
        hR v' h2 t2 pv' fun b o hb hbB e => k2 b o hb hbB ((Heap.get?_update_other _ _ (Ne.symm hbB)).trans (k1 b o hb e))
    rcases ho with ⟨rfl, rfl⟩ | ⟨u, hj, rfl, pu⟩
    · refine wpAny_bind (m := updateSeq B (fun _ => #[v, v])) (wpAny_updateSeq hB1 rfl ?_)
      exact wpAny_pure ⟨plainId_quiet F.plain_max_loop _, more _ v rfl pv⟩
    · have ej : j = (j - 1) + 1 := by omega
      refine wpAny_bind (m := tryCatch (holding [v, v] (richCompare .Gt v u >>= _)) _) (wpAny_tryCatch (wpAny_holding (wpAny_bind (gt j (argBest bt (j - 1)) v u _ _ _ pv pu ?_))))
      refine wpAny_bind (wpAny_holding (wpAny_truthy_bool (wpAny_bind (wpAny_letGo (wpAny_pure ?_)))))
      cases hb : bt j (argBest bt (j - 1)) with
      | true =>
        simp only [if_true]
        refine wpAny_bind (wpAny_updateSeq hB1 rfl (wpAny_bind (wpAny_letGo ?_)))
        refine wpAny_pure ⟨plainId_quiet F.plain_max_loop _, more _ v rfl ?_⟩
        rw [ej]
        show P (if bt (j - 1 + 1) (argBest bt (j - 1)) then j - 1 + 1 else argBest bt (j - 1)) v
        rw [← ej, hb, if_pos rfl]
        exact pv
      | false =>
        simp only [Bool.false_eq_true, if_false]
        refine wpAny_bind (wpAny_letGo ?_)
        refine wpAny_pure ⟨plainId_quiet F.plain_max_loop _, ih (j + 1) _ [u, u] _ (by omega) st1 (.inr ⟨u, Nat.succ_pos j, rfl, ?_⟩) hB1 fun v' h2 t2 pv' k2 => hR v' h2 t2 pv' fun b o hbw hbB e => k2 b o hbw hbB (k1 b o hbw e)⟩
        show P (argBest bt j) u
        rw [ej]
        show P (if bt (j - 1 + 1) (argBest bt (j - 1)) then j - 1 + 1 else argBest bt (j - 1)) u
        rw [← ej, hb, if_neg Bool.false_ne_true]
        exact pu
theorem call_maxKw {x : Value} {E : Value → Shared → Prop} {s : Shared} {Q : Value → Shared → Prop}
    (h : wpAny (model prog w) A.in1 (pyIter x) (fun it s2 => ∃ I fp wr n P St bt, it = .ref I ∧ Walks prog w A.in1 I fp wr n P St ∧ St 0 s2.heap ∧ (∀ b ∈ fp, b < s2.heap.objs.size) ∧ CmpOf prog w A.in1 .Gt P bt ∧
      ∀ v h' tk, (n = 0 ∧ v = dv ∨ 0 < n ∧ P (argBest bt (n - 1)) v) → (∀ b o, b ∉ wr → s2.heap.get? b = some o → h'.get? b = some o) → Q v { s2 with heap := h', toks := tk }) E s) :
    wpAny (model prog w) A (call (.builtin "max") [x] [(Str.ofString "default", dv)]) Q E s := by
  refine wpAny_call (codeAny_call_builtin F.plain_max F.entry_max ?_)
  simp only [checkBuiltinCall, F.kind_max]
  have sg : ∃ sig, Manifest.signature? "max" = some sig ∧ Bind.checkArgs "max" sig ⟨[x], [(Str.ofString "default", dv)]⟩ = pure () := ⟨_, rfl, by kernel_rfl⟩
  obtain ⟨sig, e1, e2⟩ := sg
  rw [e1]
  show wpAny _ A.in1 (Bind.checkArgs "max" sig ⟨[x], [(Str.ofString "default", dv)]⟩) _ _ s
  rw [e2]
  refine wpAny_pure ?_
  refine wpAny_bind (m := Builtin.Builtins.bindParams "max" ["key", "default"] 0 ⟨[], [(Str.ofString "default", dv)]⟩) (wpAny_of_eq (show Builtin.Builtins.bindParams "max" ["key", "default"] 0 ⟨[], [(Str.ofString "default", dv)]⟩ = pure [none, some dv] from by first | rfl | kernel_rfl) ?_)
  refine wpAny_bind (wpAny_pure ?_)
  refine wpAny_bind (wpAny_mono h (fun it s2 h2 => ?_) fun _ _ e => e)
  obtain ⟨I, fp, wr, n, P, St, bt, rfl, W, st, hfp, gt, hQ⟩ := h2
  refine wpAny_bind (wpAny_newObj_type ?_)
  refine wpAny_pure ⟨plainId_quiet F.plain_max_loop _, ?_⟩
  exact maxKw_turns W bt gt s2.heap.objs.size (fun hm => Nat.lt_irrefl _ (hfp _ hm)) n 0 _ [] _ (by omega) (W.frame _ _ _ st fun b _ o e => Heap.get?_push_of_some _ e) (.inl ⟨rfl, rfl⟩) (Heap.get?_push_size _ rfl) fun v h' tk hv hk =>
    hQ v h' tk hv fun b o hb e => hk b o hb (Nat.ne_of_lt (Heap.lt_size e)) (Heap.get?_push_of_some _ e)
end
end M
end

section
set_option Elab.async false
set_option linter.all false
set_option maxRecDepth 100000
set_option maxHeartbeats 4000000
set_option autoImplicit false
/-! M: soundness. -/
namespace M
open PySem PySem.Spec PyProof.Rows L2
section
variable {B : Bs} {T : List Addr} {cls : Nat → Addr} {k : Nat}
theorem stars_of {N : List Str} : ∀ {c : IR} {sc : Scope} {t : Bool} {es : List Expr}, chkA N c sc t es = true → (es.all fun e => !isStar e) = true
  | c, sc, t, [], _ => rfl
  | c, sc, t, e :: es, h => by
    cases c with
    | cons a r =>
      simp only [chkA, Bool.and_eq_true] at h
      rw [List.all_cons, h.1.1, stars_of h.2]
      rfl
    | _ => cases (show false = true from h)
theorem starsG_of {N : List Str} : ∀ {c : IR} {sc : Scope} {t : Bool} {es : List Expr}, chkGs N c sc t es = true → (es.all fun e => !isStar e) = true
  | c, sc, t, [], _ => rfl
  | c, sc, t, e :: es, h => by
    cases c with
    | cons a r =>
      simp only [chkGs, Bool.and_eq_true] at h
      rw [List.all_cons, h.1.1, starsG_of h.2]
      rfl
    | _ => cases (show false = true from h)
theorem assignEach_len {env : PySem.Env} : ∀ {es : List Expr}, (es.all fun e => !isStar e) = true → (assignEach es env).length = es.length
  | [], _ => rfl
  | e :: es, h => by
    rw [List.all_cons, Bool.and_eq_true, Bool.not_eq_true'] at h
    rw [assignEach_of h.1, List.length_cons, List.length_cons, assignEach_len h.2]
theorem assignEach_idx {env : PySem.Env} : ∀ {es : List Expr}, (es.all fun e => !isStar e) = true → (assignEach es env).findIdx? (·.1) = none
  | [], _ => rfl
  | e :: es, h => by
    rw [List.all_cons, Bool.and_eq_true, Bool.not_eq_true'] at h
    rw [assignEach_of h.1, List.findIdx?_cons]
    rw [assignEach_idx h.2]
    rfl
theorem Sd.blk {X : Cx} {top : Bool} {cd : Prop} {Wx : WX} (h : Sd B T cls k X top cd Wx) (s : Shared) (H : Hp) (scope : Scope) (ce : PySem.Env) (fp : List Addr) : Sd B T cls k (X.blk s H scope ce fp) false False W0 := ⟨h.bs, h.g.blk s H scope ce fp, fun z => z.elim, takesF, fun _ z => z, (fun z => by cases z), fun z => by cases z⟩
theorem opt_of {X : Cx} {Wx : WX} {c : IR} {e : Option Expr} {f : Expr → Bool} (g : ∀ e, f e = true → PE X e (DE (wd X T cls) Wx c)) (h : chkOpt c e f = true) : PO X e (DO (wd X T cls) Wx c) := by
  unfold chkOpt at h
  split at h
  · exact d_onone
  · cases h
  · rename_i hn
    exact d_osome (fun z => hn z) (g _ h)
  · cases h
theorem tests_of {X : Cx} {Wx : WX} {c : IR} {es : List Expr} {f : Expr → Bool} (g : ∀ e, f e = true → PT X e (DT (wd X T cls) Wx c)) (h : chkTs c es f = true) : PTs X es (DT (wd X T cls) Wx c) := by
  unfold chkTs at h
  split at h
  · exact ts_nil
  · cases h
  · exact ts_one (g _ h)
  · cases h
theorem pa_of {X : Cx} {Wx : WX} : ∀ (c : IR) {es : List Expr}, PEs X (wd X T cls) Wx c es → PA X es (DA (wd X T cls) Wx c)
  | c, [], h => by
    cases c with
    | nil => exact d_anil
    | cons _ _ => exact (show False from h).elim
    | _ => exact (show False from h).elim
  | c, e :: es, h => by
    cases c with
    | nil => cases (show e :: es = [] from h)
    | cons a r =>
      obtain ⟨h1, h2, h3⟩ := h
      exact d_acons h2 (pa_of r h3) (star_of h1)
    | _ => exact (show False from h).elim
section
variable {X : Cx} {Wx : WX}
theorem d_mcl {o : Expr} {es : List Expr} {co ca : IR} {k : Nat} {m : Str} {tbl : List (Nat × Spec)} {apos pos : Pos} (hr : Room k X.A) (tk : Takes X Wx) (h : ∀ c sp, tbl.lookup c = some sp → MeC (Cx.bs X) T cls k c m sp) (ho : PE X o (DE (wd X T cls) Wx co)) (hpe : PEs X (wd X T cls) Wx ca es)
    (hno : isCall o = false) (hst : (es.all fun e => !isStar e) = true) (hlen : es.length < 30) (hline : (apos.endLine == pos.line) = true) : PE X (.Call (.Attribute o m apos) es [] pos) (DE (wd X T cls) Wx (.mcl m tbl co ca)) := by
  refine ⟨fun pins s σ H Q I hh => ?_⟩
  have hform : methodCallForm (es.length + ([] : List Keyword).length) (backTo pos (starEach es X.env)) (backToKw pos (keywordEach [] X.env)) = true := by
    unfold methodCallForm
    rw [backAll_of hst]
    show (true && true && decide (es.length + 0 + 0 < 30)) = true
    rw [Bool.true_and, Bool.true_and]
    exact decide_eq_true hlen
  obtain ⟨S, δ, QM, QX, rfl, R, hE, hw, hq, hx⟩ := hh
  simp only [wpE] at hw
  refine own_call (base_of hno) hform hline ?_
  have hd : DE (wd X T cls) Wx co σ S.H fun x H1 => ∃ (S1 : Ss) (j c : Nat) (fs : List (Str × D)) (sp : Spec), H1 = S1.H ∧ x = .ref (S1.ρ j) ∧ S.le S1 ∧ Rl (wd X T cls) S1 ∧ Rep X.K S1.vw (.obj j) x ∧ S1.μ.cell j = some (.ins c fs) ∧ fs.lookup m = none ∧ tbl.lookup c = some sp ∧ wpA ca δ S1.μ (fun ds μ2 => sp (.obj j :: ds) μ2 QM QX) QX := by
    refine ⟨S, δ, _, QX, rfl, R, hE, hw, fun S1 d1 v1 l1 R1 r1 w1 => ?_, hx⟩
    dsimp only at w1
    split at w1
    · rename_i sp e
      obtain ⟨j, c, fs, rfl, e2, e3, e4⟩ := metOf_eq e
      exact ⟨S1, j, c, fs, sp, rfl, r1.2, l1, R1, r1, e2, e3, e4, w1⟩
    · exact w1.elim
  refine thn (ho.run pins s σ S.H _ I hd) fun u s1 ⟨x, H1, I1, rx, S1, j, c, fs, sp, e1, ex, l1, R1, r1, e2, e3, e4, w1⟩ pl => ?_
  subst e1 ex
  obtain rfl : u = Value.ref (S1.ρ j) := rx
  obtain ⟨hc, f, fd, ps, sp', dd, dvs, dus, hm, F, hb, hdv, hrd, imp⟩ := h c sp e4
  obtain ⟨dx, es2, ei, r2⟩ := R1.ok _ _ e2
  have hl : es2.lookup m = none := by
    have := repP_lookup (f := m) r2
    rw [e3] at this
    exact this
  refine getmeth_ok I1 ei hc hm hl ?_
  cases es with
  | nil =>
    have e5 : ca = .nil := by
      cases ca <;> first | rfl | exact (show False from hpe).elim
    subst e5
    simp only [wpA] at w1
    refine PySem.W.callWith_K0 (first := [.ref (S1.ρ j)]) I1.kIn hm.kp ?_
    exact run_fnSD (us := [.ref (S1.ρ j)]) (vs := [.ref (S1.ρ j)]) F hr hb hdv (passAt tk σ) I1 (.cons rfl .nil) ⟨S1, [.obj j] ++ dd, QM, QX, rfl, R1, (Reps.one r1).append (hrd _), imp _ _ _ _ w1, hq.le l1, hx.le l1⟩
  | cons e es =>
    have ha := pa_of ca hpe
    have hda : DA (wd X T cls) Wx ca σ S1.H fun vs H2 => ∃ (S2 : Ss) (ds : List D), H2 = S2.H ∧ S1.le S2 ∧ Rl (wd X T cls) S2 ∧ Reps X.K S2.vw ds vs ∧ sp (.obj j :: ds) S2.μ QM QX :=
      ⟨S1, δ, _, QX, rfl, R1, hE.mono l1.1, w1, fun S2 ds vs l2 R2 r3 w2 => ⟨S2, ds, rfl, l2, R2, r3, w2⟩, hx.le l1⟩
    rw [List.all_cons, Bool.and_eq_true, Bool.not_eq_true'] at hst
    refine PySem.W.callWith_K (first := [.ref (S1.ρ j)]) (h₀ := X.base) I1.ok.mod.kin hm.kp (thn (ha.run pos pins s1 σ S1.H _ I1 hda) fun us s2 ⟨vs, H2, I2, r, S2, ds, e5, l2, R2, r3, w2⟩ => ⟨I2.kIn, ?_⟩) (star_of hst.1) (back_of hst.2)
    subst e5
    exact run_fnSD (us := .ref (S1.ρ j) :: us) (vs := .ref (S1.ρ j) :: vs) F hr hb hdv (passAt tk σ) I2 (.cons rfl r) ⟨S2, (.obj j :: ds) ++ dd, QM, QX, rfl, R2, (show Reps X.K S2.vw (.obj j :: ds) (.ref (S1.ρ j) :: vs) from ⟨_, _, rfl, r1.mono l2.1, r3⟩).append (hrd _), imp _ _ _ _ w2, hq.le (l1.trans l2), hx.le (l1.trans l2)⟩
end
mutual
theorem sndE : ∀ (c : IR) {cd : Prop} {top : Bool} {X : Cx} {Wx : WX} {e : Expr}, Sd B T cls k X top cd Wx → okE B T cls k cd c → chkE X.N c X.env.scope top e = true → PE X e (DE (wd X T cls) Wx c)
  | .var i, cd, top, X, Wx, e, S, ok, h => by
    cases e with
    | Name x pos =>
      simp only [chkE, Bool.and_eq_true, decide_eq_true_eq, Bool.not_eq_true'] at h
      obtain ⟨⟨h1, h2⟩, h3⟩ := h
      exact d_var h1 (vis_of h2) (okN h3).1 (okN h3).2
    | _ => cases (show false = true from h)
  | .con d, cd, top, X, Wx, e, S, ok, h => by
    cases e with
    | Constant c j pos =>
      simp only [chkE] at h
      cases d <;> cases c <;> simp only [conB, decide_eq_true_eq, beq_iff_eq] at h <;> first | (cases h; done) | skip
      · exact d_con pe_non fun _ => rfl
      · subst h; exact d_con pe_bl fun _ => rfl
      · subst h; exact d_con pe_int fun _ => rfl
      · subst h; exact d_con pe_str fun _ => rfl
    | _ => cases (show false = true from h)
  | .glb x d, cd, top, X, Wx, e, S, ok, h => by
    cases e with
    | Name y pos =>
      simp only [chkE, Bool.and_eq_true, decide_eq_true_eq] at h
      obtain ⟨⟨rfl, h2⟩, h3⟩ := h
      have hB := S.bs
      obtain ⟨u, v, hm, hr, hv⟩ := (show GlC (Cx.bs X) x d from hB ▸ ok)
      exact d_glb (pe_glob (gl_of h2) hm hr (okN h3).1) hv
    | _ => cases (show false = true from h)
  | .bty n, cd, top, X, Wx, e, S, ok, h => by
    cases e with
    | Name y pos =>
      simp only [chkE, Bool.and_eq_true, decide_eq_true_eq] at h
      obtain ⟨⟨rfl, h2⟩, h3⟩ := h
      have hB := S.bs
      obtain ⟨hm, hv, hn⟩ := (show BtC (Cx.bs X) n from hB ▸ ok)
      exact d_bty (pe_bltn (gl_of h2) hm hv rfl hn (okN h3).1)
    | _ => cases (show false = true from h)
  | .bin o a b, cd, top, X, Wx, e, S, ok, h => by
    cases e with
    | BinOp l p r pos =>
      simp only [chkE, Bool.and_eq_true, decide_eq_true_eq, Bool.not_eq_true'] at h
      obtain ⟨⟨rfl, h1⟩, h2⟩ := h
      exact d_bin (sndE a S ok.1 h1) (sndE b S ok.2 h2)
    | _ => cases (show false = true from h)
  | .neg a, cd, top, X, Wx, e, S, ok, h => by
    cases e with
    | UnaryOp op x pos =>
      cases op <;> simp only [chkE] at h <;> first | (cases h; done) | exact d_neg (sndE a S ok h)
    | _ => cases (show false = true from h)
  | .notV a, cd, top, X, Wx, e, S, ok, h => by
    cases e with
    | UnaryOp op x pos =>
      cases op <;> simp only [chkE] at h <;> first | (cases h; done) | exact d_not (sndE a S ok h)
    | _ => cases (show false = true from h)
  | .cmp o a b, cd, top, X, Wx, e, S, ok, h => by
    cases e with
    | Compare l ops cs pos =>
      rcases ops with _ | ⟨p, _ | ⟨p', ops⟩⟩ <;> rcases cs with _ | ⟨r, _ | ⟨r', cs⟩⟩ <;> first | (cases (show false = true from h); done) | skip
      simp only [chkE, Bool.and_eq_true, decide_eq_true_eq, Bool.not_eq_true'] at h
      obtain ⟨⟨⟨rfl, h1⟩, h2⟩, h3⟩ := h
      exact d_cmp S.g.room (sndE a S ok.1 h2) (sndE b S ok.2 h3) h1
    | _ => cases (show false = true from h)
  | .chn o o' a b c, cd, top, X, Wx, e, S, ok, h => by
    cases e with
    | Compare l ops cs pos =>
      rcases ops with _ | ⟨p, _ | ⟨p', _ | ⟨p'', ops⟩⟩⟩ <;> rcases cs with _ | ⟨r, _ | ⟨r', _ | ⟨r'', cs⟩⟩⟩ <;> first | (cases (show false = true from h); done) | skip
      simp only [chkE, Bool.and_eq_true, decide_eq_true_eq, Bool.not_eq_true'] at h
      obtain ⟨⟨⟨⟨⟨rfl, rfl⟩, h1⟩, h2⟩, h3⟩, h4⟩ := h
      exact d_chn S.g.room (sndE a S ok.1 h2) (sndE b S ok.2.1 h3) (sndE c S ok.2.2 h4) h1
    | _ => cases (show false = true from h)
  | .one a, cd, top, X, Wx, e, S, ok, h => by
    cases e with
    | BoolOp op es pos =>
      rcases es with _ | ⟨x, _ | ⟨y, es⟩⟩ <;> first | (cases (show false = true from h); done) | skip
      simp only [chkE] at h
      exact d_one (sndE a S ok h)
    | _ => cases (show false = true from h)
  | .andV a r, cd, top, X, Wx, e, S, ok, h => by
    cases e with
    | BoolOp op es pos =>
      cases op <;> rcases es with _ | ⟨x, _ | ⟨y, es⟩⟩ <;> first | (cases (show false = true from h); done) | skip
      simp only [chkE, Bool.and_eq_true] at h
      exact d_and (sndE a S ok.1 h.1) (sndE r S ok.2 h.2)
    | _ => cases (show false = true from h)
  | .orV a r, cd, top, X, Wx, e, S, ok, h => by
    cases e with
    | BoolOp op es pos =>
      cases op <;> rcases es with _ | ⟨x, _ | ⟨y, es⟩⟩ <;> first | (cases (show false = true from h); done) | skip
      simp only [chkE, Bool.and_eq_true] at h
      exact d_or (sndE a S ok.1 h.1) (sndE r S ok.2 h.2)
    | _ => cases (show false = true from h)
  | .ife c a b, cd, top, X, Wx, e, S, ok, h => by
    cases e with
    | IfExp x y z pos =>
      simp only [chkE, Bool.and_eq_true, decide_eq_true_eq, Bool.not_eq_true'] at h
      exact d_ife (sndT c S ok.1 h.1.1) (sndE a S ok.2.1 h.1.2) (sndE b S ok.2.2 h.2)
    | _ => cases (show false = true from h)
  | .ix a i, cd, top, X, Wx, e, S, ok, h => by
    cases e with
    | Subscript x y pos =>
      simp only [chkE, Bool.and_eq_true, Bool.not_eq_true'] at h
      exact d_ix S.g.room (sndE a S ok.1 h.1.2) (sndE i S ok.2 h.2) (plainIx_of h.1.1)
    | _ => cases (show false = true from h)
  | .sl a lo hi, cd, top, X, Wx, e, S, ok, h => by
    cases e with
    | Subscript x y pos =>
      cases y with
      | Slice l u st p2 =>
        cases st with
        | none =>
          simp only [chkE, Bool.and_eq_true] at h
          exact d_sl (sndE a S ok.1 h.1.1) (opt_of (fun e he => sndE lo S ok.2.1 he) h.1.2) (opt_of (fun e he => sndE hi S ok.2.2 he) h.2)
        | some _ => cases (show false = true from h)
      | _ => cases (show false = true from h)
    | _ => cases (show false = true from h)
  | .tupC as, cd, top, X, Wx, e, S, ok, h => by
    cases e with
    | Tuple es j pos =>
      simp only [chkE] at h
      exact d_tup (pa_of as (sndL as S ok h))
    | _ => cases (show false = true from h)
  | .lstC as, cd, top, X, Wx, e, S, ok, h => by
    cases e with
    | List es pos =>
      simp only [chkE] at h
      exact d_lst (pa_of as (sndL as S ok h))
    | _ => cases (show false = true from h)
  | .lstM as, cd, top, X, Wx, e, S, ok, h => by
    cases e with
    | List es pos =>
      simp only [chkE] at h
      exact d_lstM (pa_of as (sndL as S ok h))
    | _ => cases (show false = true from h)
  | .cal x sp as, cd, top, X, Wx, e, S, ok, h => by
    cases e with
    | Call f es kws pos =>
      cases f with
      | Name y p =>
        cases kws with
        | nil =>
          simp only [chkE, Bool.and_eq_true, decide_eq_true_eq, Bool.not_eq_true'] at h
          obtain ⟨⟨⟨rfl, h2⟩, h3⟩, h4⟩ := h
          have hB := S.bs
          cases es with
          | nil => cases h3
          | cons e es =>
            have hs := stars_of h4
            have hs' := hs
            rw [List.all_cons, Bool.and_eq_true, Bool.not_eq_true'] at hs'
            exact d_cal S.g.room S.g.calm S.tk (show CalC (Cx.bs X) T cls k x sp from hB ▸ ok.1) (gl_of h2) (pa_of as (sndL as S ok.2 h4)) (star_of hs'.1) (back_of hs'.2)
        | cons _ _ => cases (show false = true from h)
      | _ => cases (show false = true from h)
    | _ => cases (show false = true from h)
  | .bme Ty id m sp o as, cd, top, X, Wx, e, S, ok, h => by
    cases e with
    | Call f es kws pos =>
      cases f with
      | Attribute x a apos =>
        cases kws with
        | nil =>
          simp only [chkE, Bool.and_eq_true, decide_eq_true_eq, Bool.not_eq_true'] at h
          obtain ⟨⟨⟨⟨⟨⟨rfl, h1⟩, h2⟩, h3⟩, h4⟩, h5⟩, h6⟩ := h
          have hB := S.bs
          cases es with
          | nil => cases h2
          | cons e es => exact d_bme S.g.room S.g.calm (show MtC (Cx.bs X) T cls k Ty id m sp from hB ▸ ok.1) (sndE o S ok.2.1 h5) (pa_of as (sndL as S ok.2.2 h6)) h1 (stars_of h6) h3 h4
        | cons _ _ => cases (show false = true from h)
      | _ => cases (show false = true from h)
    | _ => cases (show false = true from h)
  | .mcl m tbl o as, cd, top, X, Wx, e, S, ok, h => by
    cases e with
    | Call f es kws pos =>
      cases f with
      | Attribute x a apos =>
        cases kws with
        | nil =>
          simp only [chkE, Bool.and_eq_true, decide_eq_true_eq, Bool.not_eq_true'] at h
          obtain ⟨⟨⟨⟨⟨rfl, h1⟩, h2⟩, h3⟩, h4⟩, h5⟩ := h
          have hB := S.bs
          exact d_mcl S.g.room S.tk (show ∀ c sp, tbl.lookup c = some sp → MeC (Cx.bs X) T cls k c m sp from hB ▸ ok.1) (sndE o S ok.2.1 h4) (sndL as S ok.2.2 h5) h1 (stars_of h5) h2 h3
        | cons _ _ => cases (show false = true from h)
      | _ => cases (show false = true from h)
    | _ => cases (show false = true from h)
  | .cpr own g it t e', cd, top, X, Wx, e, S, ok, h => by
    cases e with
    | ListComp elt gs scope pos =>
      rcases gs with _ | ⟨⟨tg, iter, ifs, as⟩, _ | ⟨g2, gs⟩⟩ <;> first | (cases (show false = true from h); done) | (simp [chkE] at h; done) | skip
      simp only [chkE, Bool.and_eq_true, Bool.not_eq_true', List.all_eq_true, decide_eq_true_eq] at h
      obtain ⟨⟨⟨⟨⟨⟨⟨rfl, h1⟩, h2⟩, h3⟩, h4⟩, h5⟩, h6⟩, h7⟩ := h
      exact d_cpr S.g.calm S.g.nd (sndI it S ok.1 h4) (blkOk_by h1) h2 (fun s H C cl fp => sndG g (S.blk s H scope _ fp) ok.2.1 h5) (fun s H C cl fp => tests_of (fun e he => sndT t (S.blk s H scope _ fp) ok.2.2.1 he) h6) (fun s H C cl fp => sndE e' (S.blk s H scope _ fp) ok.2.2.2 h7) (set_of h3)
    | _ => cases (show false = true from h)
  | .dcp own g it ke ve, cd, top, X, Wx, e, S, ok, h => by
    cases e with
    | DictComp kx vx gs scope pos =>
      rcases gs with _ | ⟨⟨tg, iter, ifs, as⟩, _ | ⟨g2, gs⟩⟩ <;> first | (cases (show false = true from h); done) | (simp [chkE] at h; done) | skip
      cases ifs with
      | cons _ _ => cases (show false = true from h)
      | nil =>
        simp only [chkE, Bool.and_eq_true, Bool.not_eq_true', List.all_eq_true, decide_eq_true_eq] at h
        obtain ⟨⟨⟨⟨⟨⟨⟨rfl, h1⟩, h2⟩, h3⟩, h4⟩, h5⟩, h6⟩, h7⟩ := h
        exact d_dcp S.g.calm S.g.nd (sndI it S ok.1 h4) (blkOk_by h1) h2 (fun s H C cl fp => sndG g (S.blk s H scope _ fp) ok.2.1 h5) (fun s H C cl fp => sndE ke (S.blk s H scope _ fp) ok.2.2.1 h6) (fun s H C cl fp => sndE ve (S.blk s H scope _ fp) ok.2.2.2 h7) (set_of h3)
    | _ => cases (show false = true from h)
  | .lkE i a, cd, top, X, Wx, e, S, ok, h => by
    simp only [chkE] at h
    exact d_lkE (sndE a S ok h)
  | .frz a, cd, top, X, Wx, e, S, ok, h => by
    simp only [chkE] at h
    exact d_frz (sndE a S ok h)
  | .nod f ev as, cd, top, X, Wx, e, S, ok, h => by
    simp only [chkE] at h
    split at h
    · rename_i es he
      exact ok.1 X top Wx e es as S he (sndL as S ok.2 h)
    · cases h
  | .nop, cd, top, X, Wx, e, S, ok, h => nomatch (show false = true from h)
  | .nil, cd, top, X, Wx, e, S, ok, h => nomatch (show false = true from h)
  | .cons _ _, cd, top, X, Wx, e, S, ok, h => nomatch (show false = true from h)
  | .lkS _ _, cd, top, X, Wx, e, S, ok, h => nomatch (show false = true from h)
  | .itm _, cd, top, X, Wx, e, S, ok, h => nomatch (show false = true from h)
  | .ien _, cd, top, X, Wx, e, S, ok, h => nomatch (show false = true from h)
  | .tV _, cd, top, X, Wx, e, S, ok, h => nomatch (show false = true from h)
  | .tNot _, cd, top, X, Wx, e, S, ok, h => nomatch (show false = true from h)
  | .tOne _, cd, top, X, Wx, e, S, ok, h => nomatch (show false = true from h)
  | .tAnd _ _, cd, top, X, Wx, e, S, ok, h => nomatch (show false = true from h)
  | .tOr _ _, cd, top, X, Wx, e, S, ok, h => nomatch (show false = true from h)
  | .tnd _ _ _, cd, top, X, Wx, e, S, ok, h => nomatch (show false = true from h)
  | .ind _ _ _, cd, top, X, Wx, e, S, ok, h => nomatch (show false = true from h)
  | .itV _, cd, top, X, Wx, e, S, ok, h => nomatch (show false = true from h)
  | .itR1 _, cd, top, X, Wx, e, S, ok, h => nomatch (show false = true from h)
  | .itR2 _ _, cd, top, X, Wx, e, S, ok, h => nomatch (show false = true from h)
  | .gN _, cd, top, X, Wx, e, S, ok, h => nomatch (show false = true from h)
  | .gT _ _, cd, top, X, Wx, e, S, ok, h => nomatch (show false = true from h)
  | .gSub _ _, cd, top, X, Wx, e, S, ok, h => nomatch (show false = true from h)
  | .asg _ _, cd, top, X, Wx, e, S, ok, h => nomatch (show false = true from h)
  | .asc _ _, cd, top, X, Wx, e, S, ok, h => nomatch (show false = true from h)
  | .exp _, cd, top, X, Wx, e, S, ok, h => nomatch (show false = true from h)
  | .ret _, cd, top, X, Wx, e, S, ok, h => nomatch (show false = true from h)
  | .ret0, cd, top, X, Wx, e, S, ok, h => nomatch (show false = true from h)
  | .ifS _ _ _, cd, top, X, Wx, e, S, ok, h => nomatch (show false = true from h)
  | .whl _ _, cd, top, X, Wx, e, S, ok, h => nomatch (show false = true from h)
  | .fr _ _ _, cd, top, X, Wx, e, S, ok, h => nomatch (show false = true from h)
  | .brk, cd, top, X, Wx, e, S, ok, h => nomatch (show false = true from h)
  | .cnt, cd, top, X, Wx, e, S, ok, h => nomatch (show false = true from h)
  | .pas, cd, top, X, Wx, e, S, ok, h => nomatch (show false = true from h)
  | .sno _ _ _, cd, top, X, Wx, e, S, ok, h => nomatch (show false = true from h)
  | .nev, cd, top, X, Wx, e, S, ok, h => nomatch (show false = true from h)
  | .seq _ _, cd, top, X, Wx, e, S, ok, h => nomatch (show false = true from h)
theorem sndL : ∀ (c : IR) {cd : Prop} {top : Bool} {X : Cx} {Wx : WX} {es : List Expr}, Sd B T cls k X top cd Wx → okE B T cls k cd c → chkA X.N c X.env.scope top es = true → PEs X (wd X T cls) Wx c es
  | .nil, cd, top, X, Wx, es, S, ok, h => by
    cases es with
    | nil => exact rfl
    | cons _ _ => cases (show false = true from h)
  | .cons a r, cd, top, X, Wx, es, S, ok, h => by
    cases es with
    | nil => cases (show false = true from h)
    | cons e es =>
      simp only [chkA, Bool.and_eq_true, Bool.not_eq_true'] at h
      exact ⟨h.1.1, sndE a S ok.1 h.1.2, sndL r S ok.2 h.2⟩
  | .nop, cd, top, X, Wx, es, S, ok, h => nomatch (show false = true from h)
  | .var _, cd, top, X, Wx, es, S, ok, h => nomatch (show false = true from h)
  | .con _, cd, top, X, Wx, es, S, ok, h => nomatch (show false = true from h)
  | .glb _ _, cd, top, X, Wx, es, S, ok, h => nomatch (show false = true from h)
  | .bty _, cd, top, X, Wx, es, S, ok, h => nomatch (show false = true from h)
  | .bin _ _ _, cd, top, X, Wx, es, S, ok, h => nomatch (show false = true from h)
  | .neg _, cd, top, X, Wx, es, S, ok, h => nomatch (show false = true from h)
  | .cmp _ _ _, cd, top, X, Wx, es, S, ok, h => nomatch (show false = true from h)
  | .chn _ _ _ _ _, cd, top, X, Wx, es, S, ok, h => nomatch (show false = true from h)
  | .one _, cd, top, X, Wx, es, S, ok, h => nomatch (show false = true from h)
  | .andV _ _, cd, top, X, Wx, es, S, ok, h => nomatch (show false = true from h)
  | .orV _ _, cd, top, X, Wx, es, S, ok, h => nomatch (show false = true from h)
  | .notV _, cd, top, X, Wx, es, S, ok, h => nomatch (show false = true from h)
  | .ife _ _ _, cd, top, X, Wx, es, S, ok, h => nomatch (show false = true from h)
  | .ix _ _, cd, top, X, Wx, es, S, ok, h => nomatch (show false = true from h)
  | .sl _ _ _, cd, top, X, Wx, es, S, ok, h => nomatch (show false = true from h)
  | .tupC _, cd, top, X, Wx, es, S, ok, h => nomatch (show false = true from h)
  | .lstC _, cd, top, X, Wx, es, S, ok, h => nomatch (show false = true from h)
  | .lstM _, cd, top, X, Wx, es, S, ok, h => nomatch (show false = true from h)
  | .cal _ _ _, cd, top, X, Wx, es, S, ok, h => nomatch (show false = true from h)
  | .bme _ _ _ _ _ _, cd, top, X, Wx, es, S, ok, h => nomatch (show false = true from h)
  | .mcl _ _ _ _, cd, top, X, Wx, es, S, ok, h => nomatch (show false = true from h)
  | .lkE _ _, cd, top, X, Wx, es, S, ok, h => nomatch (show false = true from h)
  | .lkS _ _, cd, top, X, Wx, es, S, ok, h => nomatch (show false = true from h)
  | .itm _, cd, top, X, Wx, es, S, ok, h => nomatch (show false = true from h)
  | .ien _, cd, top, X, Wx, es, S, ok, h => nomatch (show false = true from h)
  | .cpr _ _ _ _ _, cd, top, X, Wx, es, S, ok, h => nomatch (show false = true from h)
  | .dcp _ _ _ _ _, cd, top, X, Wx, es, S, ok, h => nomatch (show false = true from h)
  | .frz _, cd, top, X, Wx, es, S, ok, h => nomatch (show false = true from h)
  | .nod _ _ _, cd, top, X, Wx, es, S, ok, h => nomatch (show false = true from h)
  | .tV _, cd, top, X, Wx, es, S, ok, h => nomatch (show false = true from h)
  | .tNot _, cd, top, X, Wx, es, S, ok, h => nomatch (show false = true from h)
  | .tOne _, cd, top, X, Wx, es, S, ok, h => nomatch (show false = true from h)
  | .tAnd _ _, cd, top, X, Wx, es, S, ok, h => nomatch (show false = true from h)
  | .tOr _ _, cd, top, X, Wx, es, S, ok, h => nomatch (show false = true from h)
  | .tnd _ _ _, cd, top, X, Wx, es, S, ok, h => nomatch (show false = true from h)
  | .ind _ _ _, cd, top, X, Wx, es, S, ok, h => nomatch (show false = true from h)
  | .itV _, cd, top, X, Wx, es, S, ok, h => nomatch (show false = true from h)
  | .itR1 _, cd, top, X, Wx, es, S, ok, h => nomatch (show false = true from h)
  | .itR2 _ _, cd, top, X, Wx, es, S, ok, h => nomatch (show false = true from h)
  | .gN _, cd, top, X, Wx, es, S, ok, h => nomatch (show false = true from h)
  | .gT _ _, cd, top, X, Wx, es, S, ok, h => nomatch (show false = true from h)
  | .gSub _ _, cd, top, X, Wx, es, S, ok, h => nomatch (show false = true from h)
  | .asg _ _, cd, top, X, Wx, es, S, ok, h => nomatch (show false = true from h)
  | .asc _ _, cd, top, X, Wx, es, S, ok, h => nomatch (show false = true from h)
  | .exp _, cd, top, X, Wx, es, S, ok, h => nomatch (show false = true from h)
  | .ret _, cd, top, X, Wx, es, S, ok, h => nomatch (show false = true from h)
  | .ret0, cd, top, X, Wx, es, S, ok, h => nomatch (show false = true from h)
  | .ifS _ _ _, cd, top, X, Wx, es, S, ok, h => nomatch (show false = true from h)
  | .whl _ _, cd, top, X, Wx, es, S, ok, h => nomatch (show false = true from h)
  | .fr _ _ _, cd, top, X, Wx, es, S, ok, h => nomatch (show false = true from h)
  | .brk, cd, top, X, Wx, es, S, ok, h => nomatch (show false = true from h)
  | .cnt, cd, top, X, Wx, es, S, ok, h => nomatch (show false = true from h)
  | .pas, cd, top, X, Wx, es, S, ok, h => nomatch (show false = true from h)
  | .sno _ _ _, cd, top, X, Wx, es, S, ok, h => nomatch (show false = true from h)
  | .nev, cd, top, X, Wx, es, S, ok, h => nomatch (show false = true from h)
  | .seq _ _, cd, top, X, Wx, es, S, ok, h => nomatch (show false = true from h)
theorem sndT : ∀ (c : IR) {cd : Prop} {top : Bool} {X : Cx} {Wx : WX} {e : Expr}, Sd B T cls k X top cd Wx → okE B T cls k cd c → chkT X.N c X.env.scope top e = true → PT X e (DT (wd X T cls) Wx c)
  | .cmp o a b, cd, top, X, Wx, e, S, ok, h => by
    cases e with
    | Compare l ops cs pos =>
      rcases ops with _ | ⟨p, _ | ⟨p', ops⟩⟩ <;> rcases cs with _ | ⟨r, _ | ⟨r', cs⟩⟩ <;> first | (cases (show false = true from h); done) | skip
      simp only [chkT, Bool.and_eq_true, decide_eq_true_eq, Bool.not_eq_true'] at h
      obtain ⟨⟨⟨rfl, h1⟩, h2⟩, h3⟩ := h
      exact t_cmp S.g.room (sndE a S ok.1 h2) (sndE b S ok.2 h3) h1
    | _ => cases (show false = true from h)
  | .chn o o' a b c, cd, top, X, Wx, e, S, ok, h => by
    cases e with
    | Compare l ops cs pos =>
      rcases ops with _ | ⟨p, _ | ⟨p', _ | ⟨p'', ops⟩⟩⟩ <;> rcases cs with _ | ⟨r, _ | ⟨r', _ | ⟨r'', cs⟩⟩⟩ <;> first | (cases (show false = true from h); done) | skip
      simp only [chkT, Bool.and_eq_true, decide_eq_true_eq, Bool.not_eq_true'] at h
      obtain ⟨⟨⟨⟨⟨rfl, rfl⟩, h1⟩, h2⟩, h3⟩, h4⟩ := h
      exact t_chn S.g.room (sndE a S ok.1 h2) (sndE b S ok.2.1 h3) (sndE c S ok.2.2 h4) h1
    | _ => cases (show false = true from h)
  | .tV a, cd, top, X, Wx, e, S, ok, h => by
    simp only [chkT, Bool.and_eq_true] at h
    exact t_val (sndE a S ok h.2) (plainT_of h.1)
  | .tNot a, cd, top, X, Wx, e, S, ok, h => by
    cases e with
    | UnaryOp op x pos =>
      cases op <;> simp only [chkT] at h <;> first | (cases h; done) | exact t_not (sndT a S ok h)
    | _ => cases (show false = true from h)
  | .tOne a, cd, top, X, Wx, e, S, ok, h => by
    cases e with
    | BoolOp op es pos =>
      rcases es with _ | ⟨x, _ | ⟨y, es⟩⟩ <;> first | (cases (show false = true from h); done) | skip
      simp only [chkT] at h
      cases op
      · exact (t_and1 (sndT a S ok h)).pt
      · exact (t_or1 (sndT a S ok h)).pt
    | _ => cases (show false = true from h)
  | .tAnd a r, cd, top, X, Wx, e, S, ok, h => by
    cases e with
    | BoolOp op es pos =>
      cases op <;> rcases es with _ | ⟨x, _ | ⟨y, es⟩⟩ <;> first | (cases (show false = true from h); done) | skip
      simp only [chkT, Bool.and_eq_true] at h
      exact (t_and (sndT a S ok.1 h.1) (sndW r S ok.2 h.2)).pt
    | _ => cases (show false = true from h)
  | .tOr a r, cd, top, X, Wx, e, S, ok, h => by
    cases e with
    | BoolOp op es pos =>
      cases op <;> rcases es with _ | ⟨x, _ | ⟨y, es⟩⟩ <;> first | (cases (show false = true from h); done) | skip
      simp only [chkT, Bool.and_eq_true] at h
      exact (t_or (sndT a S ok.1 h.1) (sndW r S ok.2 h.2)).pt
    | _ => cases (show false = true from h)
  | .tnd f ev as, cd, top, X, Wx, e, S, ok, h => by
    simp only [chkT, Bool.and_eq_true] at h
    replace h := h.2
    split at h
    · rename_i es he
      exact ok.1 X top Wx e es as S he (sndL as S ok.2 h)
    · cases h
  | .nop, cd, top, X, Wx, e, S, ok, h => nomatch (show false = true from h)
  | .var _, cd, top, X, Wx, e, S, ok, h => nomatch (show false = true from h)
  | .con _, cd, top, X, Wx, e, S, ok, h => nomatch (show false = true from h)
  | .glb _ _, cd, top, X, Wx, e, S, ok, h => nomatch (show false = true from h)
  | .bty _, cd, top, X, Wx, e, S, ok, h => nomatch (show false = true from h)
  | .bin _ _ _, cd, top, X, Wx, e, S, ok, h => nomatch (show false = true from h)
  | .neg _, cd, top, X, Wx, e, S, ok, h => nomatch (show false = true from h)
  | .one _, cd, top, X, Wx, e, S, ok, h => nomatch (show false = true from h)
  | .andV _ _, cd, top, X, Wx, e, S, ok, h => nomatch (show false = true from h)
  | .orV _ _, cd, top, X, Wx, e, S, ok, h => nomatch (show false = true from h)
  | .notV _, cd, top, X, Wx, e, S, ok, h => nomatch (show false = true from h)
  | .ife _ _ _, cd, top, X, Wx, e, S, ok, h => nomatch (show false = true from h)
  | .ix _ _, cd, top, X, Wx, e, S, ok, h => nomatch (show false = true from h)
  | .sl _ _ _, cd, top, X, Wx, e, S, ok, h => nomatch (show false = true from h)
  | .tupC _, cd, top, X, Wx, e, S, ok, h => nomatch (show false = true from h)
  | .lstC _, cd, top, X, Wx, e, S, ok, h => nomatch (show false = true from h)
  | .lstM _, cd, top, X, Wx, e, S, ok, h => nomatch (show false = true from h)
  | .nil, cd, top, X, Wx, e, S, ok, h => nomatch (show false = true from h)
  | .cons _ _, cd, top, X, Wx, e, S, ok, h => nomatch (show false = true from h)
  | .cal _ _ _, cd, top, X, Wx, e, S, ok, h => nomatch (show false = true from h)
  | .bme _ _ _ _ _ _, cd, top, X, Wx, e, S, ok, h => nomatch (show false = true from h)
  | .mcl _ _ _ _, cd, top, X, Wx, e, S, ok, h => nomatch (show false = true from h)
  | .lkE _ _, cd, top, X, Wx, e, S, ok, h => nomatch (show false = true from h)
  | .lkS _ _, cd, top, X, Wx, e, S, ok, h => nomatch (show false = true from h)
  | .itm _, cd, top, X, Wx, e, S, ok, h => nomatch (show false = true from h)
  | .ien _, cd, top, X, Wx, e, S, ok, h => nomatch (show false = true from h)
  | .cpr _ _ _ _ _, cd, top, X, Wx, e, S, ok, h => nomatch (show false = true from h)
  | .dcp _ _ _ _ _, cd, top, X, Wx, e, S, ok, h => nomatch (show false = true from h)
  | .frz _, cd, top, X, Wx, e, S, ok, h => nomatch (show false = true from h)
  | .nod _ _ _, cd, top, X, Wx, e, S, ok, h => nomatch (show false = true from h)
  | .ind _ _ _, cd, top, X, Wx, e, S, ok, h => nomatch (show false = true from h)
  | .itV _, cd, top, X, Wx, e, S, ok, h => nomatch (show false = true from h)
  | .itR1 _, cd, top, X, Wx, e, S, ok, h => nomatch (show false = true from h)
  | .itR2 _ _, cd, top, X, Wx, e, S, ok, h => nomatch (show false = true from h)
  | .gN _, cd, top, X, Wx, e, S, ok, h => nomatch (show false = true from h)
  | .gT _ _, cd, top, X, Wx, e, S, ok, h => nomatch (show false = true from h)
  | .gSub _ _, cd, top, X, Wx, e, S, ok, h => nomatch (show false = true from h)
  | .asg _ _, cd, top, X, Wx, e, S, ok, h => nomatch (show false = true from h)
  | .asc _ _, cd, top, X, Wx, e, S, ok, h => nomatch (show false = true from h)
  | .exp _, cd, top, X, Wx, e, S, ok, h => nomatch (show false = true from h)
  | .ret _, cd, top, X, Wx, e, S, ok, h => nomatch (show false = true from h)
  | .ret0, cd, top, X, Wx, e, S, ok, h => nomatch (show false = true from h)
  | .ifS _ _ _, cd, top, X, Wx, e, S, ok, h => nomatch (show false = true from h)
  | .whl _ _, cd, top, X, Wx, e, S, ok, h => nomatch (show false = true from h)
  | .fr _ _ _, cd, top, X, Wx, e, S, ok, h => nomatch (show false = true from h)
  | .brk, cd, top, X, Wx, e, S, ok, h => nomatch (show false = true from h)
  | .cnt, cd, top, X, Wx, e, S, ok, h => nomatch (show false = true from h)
  | .pas, cd, top, X, Wx, e, S, ok, h => nomatch (show false = true from h)
  | .sno _ _ _, cd, top, X, Wx, e, S, ok, h => nomatch (show false = true from h)
  | .nev, cd, top, X, Wx, e, S, ok, h => nomatch (show false = true from h)
  | .seq _ _, cd, top, X, Wx, e, S, ok, h => nomatch (show false = true from h)
theorem sndW : ∀ (c : IR) {cd : Prop} {top : Bool} {X : Cx} {Wx : WX} {op : BoolOp} {es : List Expr} {pos : Pos}, Sd B T cls k X top cd Wx → okE B T cls k cd c → chkT X.N c X.env.scope top (.BoolOp op es pos) = true → PW X (.BoolOp op es pos) (DT (wd X T cls) Wx c)
  | .tOne a, cd, top, X, Wx, op, es, pos, S, ok, h => by
    rcases es with _ | ⟨x, _ | ⟨y, es⟩⟩ <;> first | (cases (show false = true from h); done) | skip
    simp only [chkT] at h
    cases op
    · exact t_and1 (sndT a S ok h)
    · exact t_or1 (sndT a S ok h)
  | .tAnd a r, cd, top, X, Wx, op, es, pos, S, ok, h => by
    cases op <;> rcases es with _ | ⟨x, _ | ⟨y, es⟩⟩ <;> first | (cases (show false = true from h); done) | skip
    simp only [chkT, Bool.and_eq_true] at h
    exact t_and (sndT a S ok.1 h.1) (sndW r S ok.2 h.2)
  | .tOr a r, cd, top, X, Wx, op, es, pos, S, ok, h => by
    cases op <;> rcases es with _ | ⟨x, _ | ⟨y, es⟩⟩ <;> first | (cases (show false = true from h); done) | skip
    simp only [chkT, Bool.and_eq_true] at h
    exact t_or (sndT a S ok.1 h.1) (sndW r S ok.2 h.2)
  | .tV a, cd, top, X, Wx, op, es, pos, S, ok, h => by
    simp [chkT, isPlainT] at h
  | .tnd f ev as, cd, top, X, Wx, op, es, pos, S, ok, h => by
    simp [chkT, isBoolE] at h
  | .nop, cd, top, X, Wx, op, es, pos, S, ok, h => nomatch (show false = true from h)
  | .var _, cd, top, X, Wx, op, es, pos, S, ok, h => nomatch (show false = true from h)
  | .con _, cd, top, X, Wx, op, es, pos, S, ok, h => nomatch (show false = true from h)
  | .glb _ _, cd, top, X, Wx, op, es, pos, S, ok, h => nomatch (show false = true from h)
  | .bty _, cd, top, X, Wx, op, es, pos, S, ok, h => nomatch (show false = true from h)
  | .bin _ _ _, cd, top, X, Wx, op, es, pos, S, ok, h => nomatch (show false = true from h)
  | .neg _, cd, top, X, Wx, op, es, pos, S, ok, h => nomatch (show false = true from h)
  | .cmp _ _ _, cd, top, X, Wx, op, es, pos, S, ok, h => nomatch (show false = true from h)
  | .chn _ _ _ _ _, cd, top, X, Wx, op, es, pos, S, ok, h => nomatch (show false = true from h)
  | .one _, cd, top, X, Wx, op, es, pos, S, ok, h => nomatch (show false = true from h)
  | .andV _ _, cd, top, X, Wx, op, es, pos, S, ok, h => nomatch (show false = true from h)
  | .orV _ _, cd, top, X, Wx, op, es, pos, S, ok, h => nomatch (show false = true from h)
  | .notV _, cd, top, X, Wx, op, es, pos, S, ok, h => nomatch (show false = true from h)
  | .ife _ _ _, cd, top, X, Wx, op, es, pos, S, ok, h => nomatch (show false = true from h)
  | .ix _ _, cd, top, X, Wx, op, es, pos, S, ok, h => nomatch (show false = true from h)
  | .sl _ _ _, cd, top, X, Wx, op, es, pos, S, ok, h => nomatch (show false = true from h)
  | .tupC _, cd, top, X, Wx, op, es, pos, S, ok, h => nomatch (show false = true from h)
  | .lstC _, cd, top, X, Wx, op, es, pos, S, ok, h => nomatch (show false = true from h)
  | .lstM _, cd, top, X, Wx, op, es, pos, S, ok, h => nomatch (show false = true from h)
  | .nil, cd, top, X, Wx, op, es, pos, S, ok, h => nomatch (show false = true from h)
  | .cons _ _, cd, top, X, Wx, op, es, pos, S, ok, h => nomatch (show false = true from h)
  | .cal _ _ _, cd, top, X, Wx, op, es, pos, S, ok, h => nomatch (show false = true from h)
  | .bme _ _ _ _ _ _, cd, top, X, Wx, op, es, pos, S, ok, h => nomatch (show false = true from h)
  | .mcl _ _ _ _, cd, top, X, Wx, op, es, pos, S, ok, h => nomatch (show false = true from h)
  | .lkE _ _, cd, top, X, Wx, op, es, pos, S, ok, h => nomatch (show false = true from h)
  | .lkS _ _, cd, top, X, Wx, op, es, pos, S, ok, h => nomatch (show false = true from h)
  | .itm _, cd, top, X, Wx, op, es, pos, S, ok, h => nomatch (show false = true from h)
  | .ien _, cd, top, X, Wx, op, es, pos, S, ok, h => nomatch (show false = true from h)
  | .cpr _ _ _ _ _, cd, top, X, Wx, op, es, pos, S, ok, h => nomatch (show false = true from h)
  | .dcp _ _ _ _ _, cd, top, X, Wx, op, es, pos, S, ok, h => nomatch (show false = true from h)
  | .frz _, cd, top, X, Wx, op, es, pos, S, ok, h => nomatch (show false = true from h)
  | .nod _ _ _, cd, top, X, Wx, op, es, pos, S, ok, h => nomatch (show false = true from h)
  | .tNot _, cd, top, X, Wx, op, es, pos, S, ok, h => nomatch (show false = true from h)
  | .ind _ _ _, cd, top, X, Wx, op, es, pos, S, ok, h => nomatch (show false = true from h)
  | .itV _, cd, top, X, Wx, op, es, pos, S, ok, h => nomatch (show false = true from h)
  | .itR1 _, cd, top, X, Wx, op, es, pos, S, ok, h => nomatch (show false = true from h)
  | .itR2 _ _, cd, top, X, Wx, op, es, pos, S, ok, h => nomatch (show false = true from h)
  | .gN _, cd, top, X, Wx, op, es, pos, S, ok, h => nomatch (show false = true from h)
  | .gT _ _, cd, top, X, Wx, op, es, pos, S, ok, h => nomatch (show false = true from h)
  | .gSub _ _, cd, top, X, Wx, op, es, pos, S, ok, h => nomatch (show false = true from h)
  | .asg _ _, cd, top, X, Wx, op, es, pos, S, ok, h => nomatch (show false = true from h)
  | .asc _ _, cd, top, X, Wx, op, es, pos, S, ok, h => nomatch (show false = true from h)
  | .exp _, cd, top, X, Wx, op, es, pos, S, ok, h => nomatch (show false = true from h)
  | .ret _, cd, top, X, Wx, op, es, pos, S, ok, h => nomatch (show false = true from h)
  | .ret0, cd, top, X, Wx, op, es, pos, S, ok, h => nomatch (show false = true from h)
  | .ifS _ _ _, cd, top, X, Wx, op, es, pos, S, ok, h => nomatch (show false = true from h)
  | .whl _ _, cd, top, X, Wx, op, es, pos, S, ok, h => nomatch (show false = true from h)
  | .fr _ _ _, cd, top, X, Wx, op, es, pos, S, ok, h => nomatch (show false = true from h)
  | .brk, cd, top, X, Wx, op, es, pos, S, ok, h => nomatch (show false = true from h)
  | .cnt, cd, top, X, Wx, op, es, pos, S, ok, h => nomatch (show false = true from h)
  | .pas, cd, top, X, Wx, op, es, pos, S, ok, h => nomatch (show false = true from h)
  | .sno _ _ _, cd, top, X, Wx, op, es, pos, S, ok, h => nomatch (show false = true from h)
  | .nev, cd, top, X, Wx, op, es, pos, S, ok, h => nomatch (show false = true from h)
  | .seq _ _, cd, top, X, Wx, op, es, pos, S, ok, h => nomatch (show false = true from h)
theorem sndI : ∀ (c : IR) {cd : Prop} {top : Bool} {X : Cx} {Wx : WX} {tg e : Expr}, Sd B T cls k X top cd Wx → okE B T cls k cd c → chkI X.N c X.env.scope top tg e = true → PI X tg e (DI (wd X T cls) Wx c)
  | .itV a, cd, top, X, Wx, tg, e, S, ok, h => by
    simp only [chkI] at h
    exact i_val (sndE a S ok h)
  | .itm a, cd, top, X, Wx, tg, e, S, ok, h => by
    cases e with
    | Call f es kws pos =>
      cases f with
      | Attribute x m apos =>
        rcases es with _ | ⟨e1, es⟩ <;> rcases kws with _ | ⟨_, _⟩ <;> first | (cases (show false = true from h); done) | skip
        simp only [chkI, Bool.and_eq_true, decide_eq_true_eq, Bool.not_eq_true'] at h
        obtain ⟨⟨⟨⟨h1, rfl⟩, h3⟩, h4⟩, h5⟩ := h
        cases tg <;> first | (cases (show false = true from h1); done) | skip
        exact i_itm (sndE a S ok h5) (base_of h3) h4
      | _ => cases (show false = true from h)
    | _ => cases (show false = true from h)
  | .ien a, cd, top, X, Wx, tg, e, S, ok, h => by
    cases e with
    | Call f es kws pos =>
      cases f with
      | Name y p =>
        rcases es with _ | ⟨e1, _ | ⟨e2, es⟩⟩ <;> rcases kws with _ | ⟨_, _⟩ <;> first | (cases (show false = true from h); done) | skip
        simp only [chkI, Bool.and_eq_true, decide_eq_true_eq, Bool.not_eq_true'] at h
        obtain ⟨⟨⟨⟨h1, rfl⟩, h2⟩, h3⟩, h4⟩ := h
        cases tg <;> first | (cases (show false = true from h1); done) | skip
        have hB := S.bs
        exact i_ien (gl_of h2) (show (Cx.bs X).mg "enumerate" = none from hB ▸ ok.1) (sndE a S ok.2 h4) (star_of h3)
      | _ => cases (show false = true from h)
    | _ => cases (show false = true from h)
  | .itR1 a, cd, top, X, Wx, tg, e, S, ok, h => by
    cases e with
    | Call f es kws pos =>
      cases f with
      | Name y p =>
        rcases es with _ | ⟨e1, _ | ⟨e2, es⟩⟩ <;> rcases kws with _ | ⟨_, _⟩ <;> first | (cases (show false = true from h); done) | skip
        simp only [chkI, Bool.and_eq_true, decide_eq_true_eq, Bool.not_eq_true'] at h
        obtain ⟨⟨⟨rfl, h2⟩, h3⟩, h4⟩ := h
        have hB := S.bs
        exact i_rng1 (gl_of h2) (show (Cx.bs X).mg "range" = none from hB ▸ ok.1) (sndE a S ok.2 h4) (star_of h3)
      | _ => cases (show false = true from h)
    | _ => cases (show false = true from h)
  | .itR2 a b, cd, top, X, Wx, tg, e, S, ok, h => by
    cases e with
    | Call f es kws pos =>
      cases f with
      | Name y p =>
        rcases es with _ | ⟨e1, _ | ⟨e2, _ | ⟨e3, es⟩⟩⟩ <;> rcases kws with _ | ⟨_, _⟩ <;> first | (cases (show false = true from h); done) | skip
        simp only [chkI, Bool.and_eq_true, decide_eq_true_eq, Bool.not_eq_true'] at h
        obtain ⟨⟨⟨⟨⟨rfl, h2⟩, h3⟩, h3'⟩, h4⟩, h5⟩ := h
        have hB := S.bs
        exact i_rng2 (gl_of h2) (show (Cx.bs X).mg "range" = none from hB ▸ ok.1) (sndE a S ok.2.1 h4) (sndE b S ok.2.2 h5) (by rw [star_of h3, star_of h3']; rfl) (star_of h3')
      | _ => cases (show false = true from h)
    | _ => cases (show false = true from h)
  | .ind f ev as, cd, top, X, Wx, tg, e, S, ok, h => by
    simp only [chkI] at h
    split at h
    · rename_i es he
      exact ok.1 X top Wx tg e es as S he (sndL as S ok.2 h)
    · cases h
  | .nop, cd, top, X, Wx, tg, e, S, ok, h => nomatch (show false = true from h)
  | .var _, cd, top, X, Wx, tg, e, S, ok, h => nomatch (show false = true from h)
  | .con _, cd, top, X, Wx, tg, e, S, ok, h => nomatch (show false = true from h)
  | .glb _ _, cd, top, X, Wx, tg, e, S, ok, h => nomatch (show false = true from h)
  | .bty _, cd, top, X, Wx, tg, e, S, ok, h => nomatch (show false = true from h)
  | .bin _ _ _, cd, top, X, Wx, tg, e, S, ok, h => nomatch (show false = true from h)
  | .neg _, cd, top, X, Wx, tg, e, S, ok, h => nomatch (show false = true from h)
  | .cmp _ _ _, cd, top, X, Wx, tg, e, S, ok, h => nomatch (show false = true from h)
  | .chn _ _ _ _ _, cd, top, X, Wx, tg, e, S, ok, h => nomatch (show false = true from h)
  | .one _, cd, top, X, Wx, tg, e, S, ok, h => nomatch (show false = true from h)
  | .andV _ _, cd, top, X, Wx, tg, e, S, ok, h => nomatch (show false = true from h)
  | .orV _ _, cd, top, X, Wx, tg, e, S, ok, h => nomatch (show false = true from h)
  | .notV _, cd, top, X, Wx, tg, e, S, ok, h => nomatch (show false = true from h)
  | .ife _ _ _, cd, top, X, Wx, tg, e, S, ok, h => nomatch (show false = true from h)
  | .ix _ _, cd, top, X, Wx, tg, e, S, ok, h => nomatch (show false = true from h)
  | .sl _ _ _, cd, top, X, Wx, tg, e, S, ok, h => nomatch (show false = true from h)
  | .tupC _, cd, top, X, Wx, tg, e, S, ok, h => nomatch (show false = true from h)
  | .lstC _, cd, top, X, Wx, tg, e, S, ok, h => nomatch (show false = true from h)
  | .lstM _, cd, top, X, Wx, tg, e, S, ok, h => nomatch (show false = true from h)
  | .nil, cd, top, X, Wx, tg, e, S, ok, h => nomatch (show false = true from h)
  | .cons _ _, cd, top, X, Wx, tg, e, S, ok, h => nomatch (show false = true from h)
  | .cal _ _ _, cd, top, X, Wx, tg, e, S, ok, h => nomatch (show false = true from h)
  | .bme _ _ _ _ _ _, cd, top, X, Wx, tg, e, S, ok, h => nomatch (show false = true from h)
  | .mcl _ _ _ _, cd, top, X, Wx, tg, e, S, ok, h => nomatch (show false = true from h)
  | .lkE _ _, cd, top, X, Wx, tg, e, S, ok, h => nomatch (show false = true from h)
  | .lkS _ _, cd, top, X, Wx, tg, e, S, ok, h => nomatch (show false = true from h)
  | .cpr _ _ _ _ _, cd, top, X, Wx, tg, e, S, ok, h => nomatch (show false = true from h)
  | .dcp _ _ _ _ _, cd, top, X, Wx, tg, e, S, ok, h => nomatch (show false = true from h)
  | .frz _, cd, top, X, Wx, tg, e, S, ok, h => nomatch (show false = true from h)
  | .nod _ _ _, cd, top, X, Wx, tg, e, S, ok, h => nomatch (show false = true from h)
  | .tV _, cd, top, X, Wx, tg, e, S, ok, h => nomatch (show false = true from h)
  | .tNot _, cd, top, X, Wx, tg, e, S, ok, h => nomatch (show false = true from h)
  | .tOne _, cd, top, X, Wx, tg, e, S, ok, h => nomatch (show false = true from h)
  | .tAnd _ _, cd, top, X, Wx, tg, e, S, ok, h => nomatch (show false = true from h)
  | .tOr _ _, cd, top, X, Wx, tg, e, S, ok, h => nomatch (show false = true from h)
  | .tnd _ _ _, cd, top, X, Wx, tg, e, S, ok, h => nomatch (show false = true from h)
  | .gN _, cd, top, X, Wx, tg, e, S, ok, h => nomatch (show false = true from h)
  | .gT _ _, cd, top, X, Wx, tg, e, S, ok, h => nomatch (show false = true from h)
  | .gSub _ _, cd, top, X, Wx, tg, e, S, ok, h => nomatch (show false = true from h)
  | .asg _ _, cd, top, X, Wx, tg, e, S, ok, h => nomatch (show false = true from h)
  | .asc _ _, cd, top, X, Wx, tg, e, S, ok, h => nomatch (show false = true from h)
  | .exp _, cd, top, X, Wx, tg, e, S, ok, h => nomatch (show false = true from h)
  | .ret _, cd, top, X, Wx, tg, e, S, ok, h => nomatch (show false = true from h)
  | .ret0, cd, top, X, Wx, tg, e, S, ok, h => nomatch (show false = true from h)
  | .ifS _ _ _, cd, top, X, Wx, tg, e, S, ok, h => nomatch (show false = true from h)
  | .whl _ _, cd, top, X, Wx, tg, e, S, ok, h => nomatch (show false = true from h)
  | .fr _ _ _, cd, top, X, Wx, tg, e, S, ok, h => nomatch (show false = true from h)
  | .brk, cd, top, X, Wx, tg, e, S, ok, h => nomatch (show false = true from h)
  | .cnt, cd, top, X, Wx, tg, e, S, ok, h => nomatch (show false = true from h)
  | .pas, cd, top, X, Wx, tg, e, S, ok, h => nomatch (show false = true from h)
  | .sno _ _ _, cd, top, X, Wx, tg, e, S, ok, h => nomatch (show false = true from h)
  | .nev, cd, top, X, Wx, tg, e, S, ok, h => nomatch (show false = true from h)
  | .seq _ _, cd, top, X, Wx, tg, e, S, ok, h => nomatch (show false = true from h)
theorem sndG : ∀ (c : IR) {cd : Prop} {top : Bool} {X : Cx} {Wx : WX} {e : Expr}, Sd B T cls k X top cd Wx → okE B T cls k cd c → chkG X.N c X.env.scope top e = true → PG X e (DG (wd X T cls) c)
  | .gN i, cd, top, X, Wx, e, S, ok, h => by
    cases e with
    | Name x pos =>
      simp only [chkG, Bool.and_eq_true, decide_eq_true_eq] at h
      obtain ⟨h1, h2⟩ := h
      unfold locB at h2
      split at h2
      · rename_i e1
        exact g_name S.g.nd h1 (.inl e1) (.inr e1)
      · rename_i e1
        exact g_name S.g.nd h1 (.inr e1) (.inl (S.g.fn h2 x))
      · cases h2
    | _ => cases (show false = true from h)
  | .gT n gs, cd, top, X, Wx, e, S, ok, h => by
    cases e with
    | Tuple es j pos =>
      simp only [chkG, Bool.and_eq_true, decide_eq_true_eq] at h
      have hs := starsG_of h.2
      exact g_tup S.g.calm (sndGs gs S ok h.2) (by rw [assignEach_len hs]; exact h.1) (assignEach_idx hs)
    | _ => cases (show false = true from h)
  | .gSub a b, cd, top, X, Wx, e, S, ok, h => by
    cases e with
    | Subscript x y pos =>
      simp only [chkG, Bool.and_eq_true, Bool.not_eq_true'] at h
      exact g_sub (Wx := Wx) S.g.room (sndE a S ok.1 h.1.2) (sndE b S ok.2 h.2) (assignSub h.1.1)
    | _ => cases (show false = true from h)
  | .nop, cd, top, X, Wx, e, S, ok, h => nomatch (show false = true from h)
  | .var _, cd, top, X, Wx, e, S, ok, h => nomatch (show false = true from h)
  | .con _, cd, top, X, Wx, e, S, ok, h => nomatch (show false = true from h)
  | .glb _ _, cd, top, X, Wx, e, S, ok, h => nomatch (show false = true from h)
  | .bty _, cd, top, X, Wx, e, S, ok, h => nomatch (show false = true from h)
  | .bin _ _ _, cd, top, X, Wx, e, S, ok, h => nomatch (show false = true from h)
  | .neg _, cd, top, X, Wx, e, S, ok, h => nomatch (show false = true from h)
  | .cmp _ _ _, cd, top, X, Wx, e, S, ok, h => nomatch (show false = true from h)
  | .chn _ _ _ _ _, cd, top, X, Wx, e, S, ok, h => nomatch (show false = true from h)
  | .one _, cd, top, X, Wx, e, S, ok, h => nomatch (show false = true from h)
  | .andV _ _, cd, top, X, Wx, e, S, ok, h => nomatch (show false = true from h)
  | .orV _ _, cd, top, X, Wx, e, S, ok, h => nomatch (show false = true from h)
  | .notV _, cd, top, X, Wx, e, S, ok, h => nomatch (show false = true from h)
  | .ife _ _ _, cd, top, X, Wx, e, S, ok, h => nomatch (show false = true from h)
  | .ix _ _, cd, top, X, Wx, e, S, ok, h => nomatch (show false = true from h)
  | .sl _ _ _, cd, top, X, Wx, e, S, ok, h => nomatch (show false = true from h)
  | .tupC _, cd, top, X, Wx, e, S, ok, h => nomatch (show false = true from h)
  | .lstC _, cd, top, X, Wx, e, S, ok, h => nomatch (show false = true from h)
  | .lstM _, cd, top, X, Wx, e, S, ok, h => nomatch (show false = true from h)
  | .nil, cd, top, X, Wx, e, S, ok, h => nomatch (show false = true from h)
  | .cons _ _, cd, top, X, Wx, e, S, ok, h => nomatch (show false = true from h)
  | .cal _ _ _, cd, top, X, Wx, e, S, ok, h => nomatch (show false = true from h)
  | .bme _ _ _ _ _ _, cd, top, X, Wx, e, S, ok, h => nomatch (show false = true from h)
  | .mcl _ _ _ _, cd, top, X, Wx, e, S, ok, h => nomatch (show false = true from h)
  | .lkE _ _, cd, top, X, Wx, e, S, ok, h => nomatch (show false = true from h)
  | .lkS _ _, cd, top, X, Wx, e, S, ok, h => nomatch (show false = true from h)
  | .itm _, cd, top, X, Wx, e, S, ok, h => nomatch (show false = true from h)
  | .ien _, cd, top, X, Wx, e, S, ok, h => nomatch (show false = true from h)
  | .cpr _ _ _ _ _, cd, top, X, Wx, e, S, ok, h => nomatch (show false = true from h)
  | .dcp _ _ _ _ _, cd, top, X, Wx, e, S, ok, h => nomatch (show false = true from h)
  | .frz _, cd, top, X, Wx, e, S, ok, h => nomatch (show false = true from h)
  | .nod _ _ _, cd, top, X, Wx, e, S, ok, h => nomatch (show false = true from h)
  | .tV _, cd, top, X, Wx, e, S, ok, h => nomatch (show false = true from h)
  | .tNot _, cd, top, X, Wx, e, S, ok, h => nomatch (show false = true from h)
  | .tOne _, cd, top, X, Wx, e, S, ok, h => nomatch (show false = true from h)
  | .tAnd _ _, cd, top, X, Wx, e, S, ok, h => nomatch (show false = true from h)
  | .tOr _ _, cd, top, X, Wx, e, S, ok, h => nomatch (show false = true from h)
  | .tnd _ _ _, cd, top, X, Wx, e, S, ok, h => nomatch (show false = true from h)
  | .ind _ _ _, cd, top, X, Wx, e, S, ok, h => nomatch (show false = true from h)
  | .itV _, cd, top, X, Wx, e, S, ok, h => nomatch (show false = true from h)
  | .itR1 _, cd, top, X, Wx, e, S, ok, h => nomatch (show false = true from h)
  | .itR2 _ _, cd, top, X, Wx, e, S, ok, h => nomatch (show false = true from h)
  | .asg _ _, cd, top, X, Wx, e, S, ok, h => nomatch (show false = true from h)
  | .asc _ _, cd, top, X, Wx, e, S, ok, h => nomatch (show false = true from h)
  | .exp _, cd, top, X, Wx, e, S, ok, h => nomatch (show false = true from h)
  | .ret _, cd, top, X, Wx, e, S, ok, h => nomatch (show false = true from h)
  | .ret0, cd, top, X, Wx, e, S, ok, h => nomatch (show false = true from h)
  | .ifS _ _ _, cd, top, X, Wx, e, S, ok, h => nomatch (show false = true from h)
  | .whl _ _, cd, top, X, Wx, e, S, ok, h => nomatch (show false = true from h)
  | .fr _ _ _, cd, top, X, Wx, e, S, ok, h => nomatch (show false = true from h)
  | .brk, cd, top, X, Wx, e, S, ok, h => nomatch (show false = true from h)
  | .cnt, cd, top, X, Wx, e, S, ok, h => nomatch (show false = true from h)
  | .pas, cd, top, X, Wx, e, S, ok, h => nomatch (show false = true from h)
  | .sno _ _ _, cd, top, X, Wx, e, S, ok, h => nomatch (show false = true from h)
  | .nev, cd, top, X, Wx, e, S, ok, h => nomatch (show false = true from h)
  | .seq _ _, cd, top, X, Wx, e, S, ok, h => nomatch (show false = true from h)
theorem sndGs : ∀ (c : IR) {cd : Prop} {top : Bool} {X : Cx} {Wx : WX} {es : List Expr}, Sd B T cls k X top cd Wx → okE B T cls k cd c → chkGs X.N c X.env.scope top es = true → PGs X es (DGs (wd X T cls) c)
  | .nil, cd, top, X, Wx, es, S, ok, h => by
    cases es with
    | nil => exact gs_nil
    | cons _ _ => cases (show false = true from h)
  | .cons a r, cd, top, X, Wx, es, S, ok, h => by
    cases es with
    | nil => cases (show false = true from h)
    | cons e es =>
      simp only [chkGs, Bool.and_eq_true, Bool.not_eq_true'] at h
      exact gs_cons (sndG a S ok.1 h.1.2) (sndGs r S ok.2 h.2) (by rw [assignEach_of h.1.1]; rfl)
  | .nop, cd, top, X, Wx, es, S, ok, h => nomatch (show false = true from h)
  | .var _, cd, top, X, Wx, es, S, ok, h => nomatch (show false = true from h)
  | .con _, cd, top, X, Wx, es, S, ok, h => nomatch (show false = true from h)
  | .glb _ _, cd, top, X, Wx, es, S, ok, h => nomatch (show false = true from h)
  | .bty _, cd, top, X, Wx, es, S, ok, h => nomatch (show false = true from h)
  | .bin _ _ _, cd, top, X, Wx, es, S, ok, h => nomatch (show false = true from h)
  | .neg _, cd, top, X, Wx, es, S, ok, h => nomatch (show false = true from h)
  | .cmp _ _ _, cd, top, X, Wx, es, S, ok, h => nomatch (show false = true from h)
  | .chn _ _ _ _ _, cd, top, X, Wx, es, S, ok, h => nomatch (show false = true from h)
  | .one _, cd, top, X, Wx, es, S, ok, h => nomatch (show false = true from h)
  | .andV _ _, cd, top, X, Wx, es, S, ok, h => nomatch (show false = true from h)
  | .orV _ _, cd, top, X, Wx, es, S, ok, h => nomatch (show false = true from h)
  | .notV _, cd, top, X, Wx, es, S, ok, h => nomatch (show false = true from h)
  | .ife _ _ _, cd, top, X, Wx, es, S, ok, h => nomatch (show false = true from h)
  | .ix _ _, cd, top, X, Wx, es, S, ok, h => nomatch (show false = true from h)
  | .sl _ _ _, cd, top, X, Wx, es, S, ok, h => nomatch (show false = true from h)
  | .tupC _, cd, top, X, Wx, es, S, ok, h => nomatch (show false = true from h)
  | .lstC _, cd, top, X, Wx, es, S, ok, h => nomatch (show false = true from h)
  | .lstM _, cd, top, X, Wx, es, S, ok, h => nomatch (show false = true from h)
  | .cal _ _ _, cd, top, X, Wx, es, S, ok, h => nomatch (show false = true from h)
  | .bme _ _ _ _ _ _, cd, top, X, Wx, es, S, ok, h => nomatch (show false = true from h)
  | .mcl _ _ _ _, cd, top, X, Wx, es, S, ok, h => nomatch (show false = true from h)
  | .lkE _ _, cd, top, X, Wx, es, S, ok, h => nomatch (show false = true from h)
  | .lkS _ _, cd, top, X, Wx, es, S, ok, h => nomatch (show false = true from h)
  | .itm _, cd, top, X, Wx, es, S, ok, h => nomatch (show false = true from h)
  | .ien _, cd, top, X, Wx, es, S, ok, h => nomatch (show false = true from h)
  | .cpr _ _ _ _ _, cd, top, X, Wx, es, S, ok, h => nomatch (show false = true from h)
  | .dcp _ _ _ _ _, cd, top, X, Wx, es, S, ok, h => nomatch (show false = true from h)
  | .frz _, cd, top, X, Wx, es, S, ok, h => nomatch (show false = true from h)
  | .nod _ _ _, cd, top, X, Wx, es, S, ok, h => nomatch (show false = true from h)
  | .tV _, cd, top, X, Wx, es, S, ok, h => nomatch (show false = true from h)
  | .tNot _, cd, top, X, Wx, es, S, ok, h => nomatch (show false = true from h)
  | .tOne _, cd, top, X, Wx, es, S, ok, h => nomatch (show false = true from h)
  | .tAnd _ _, cd, top, X, Wx, es, S, ok, h => nomatch (show false = true from h)
  | .tOr _ _, cd, top, X, Wx, es, S, ok, h => nomatch (show false = true from h)
  | .tnd _ _ _, cd, top, X, Wx, es, S, ok, h => nomatch (show false = true from h)
  | .ind _ _ _, cd, top, X, Wx, es, S, ok, h => nomatch (show false = true from h)
  | .itV _, cd, top, X, Wx, es, S, ok, h => nomatch (show false = true from h)
  | .itR1 _, cd, top, X, Wx, es, S, ok, h => nomatch (show false = true from h)
  | .itR2 _ _, cd, top, X, Wx, es, S, ok, h => nomatch (show false = true from h)
  | .gN _, cd, top, X, Wx, es, S, ok, h => nomatch (show false = true from h)
  | .gT _ _, cd, top, X, Wx, es, S, ok, h => nomatch (show false = true from h)
  | .gSub _ _, cd, top, X, Wx, es, S, ok, h => nomatch (show false = true from h)
  | .asg _ _, cd, top, X, Wx, es, S, ok, h => nomatch (show false = true from h)
  | .asc _ _, cd, top, X, Wx, es, S, ok, h => nomatch (show false = true from h)
  | .exp _, cd, top, X, Wx, es, S, ok, h => nomatch (show false = true from h)
  | .ret _, cd, top, X, Wx, es, S, ok, h => nomatch (show false = true from h)
  | .ret0, cd, top, X, Wx, es, S, ok, h => nomatch (show false = true from h)
  | .ifS _ _ _, cd, top, X, Wx, es, S, ok, h => nomatch (show false = true from h)
  | .whl _ _, cd, top, X, Wx, es, S, ok, h => nomatch (show false = true from h)
  | .fr _ _ _, cd, top, X, Wx, es, S, ok, h => nomatch (show false = true from h)
  | .brk, cd, top, X, Wx, es, S, ok, h => nomatch (show false = true from h)
  | .cnt, cd, top, X, Wx, es, S, ok, h => nomatch (show false = true from h)
  | .pas, cd, top, X, Wx, es, S, ok, h => nomatch (show false = true from h)
  | .sno _ _ _, cd, top, X, Wx, es, S, ok, h => nomatch (show false = true from h)
  | .nev, cd, top, X, Wx, es, S, ok, h => nomatch (show false = true from h)
  | .seq _ _, cd, top, X, Wx, es, S, ok, h => nomatch (show false = true from h)
end
end
end M
end

section
set_option Elab.async false
set_option linter.all false
set_option maxRecDepth 100000
set_option maxHeartbeats 4000000
set_option autoImplicit false
/-! M: statements; a def's promise by its term. -/
namespace M
open PySem PySem.Spec PyProof.Rows L2
def okS (B : Bs) (T : List Addr) (cls : Nat → Addr) (k : Nat) (cd : Prop) : IR → Prop
  | .ifS t a b => okE B T cls k cd t ∧ okS B T cls k cd a ∧ okS B T cls k cd b
  | .whl t b => okE B T cls k cd t ∧ okS B T cls k cd b
  | .fr g it b => okE B T cls k cd g ∧ okE B T cls k cd it ∧ okS B T cls k cd b
  | .seq a b => okS B T cls k cd a ∧ okS B T cls k cd b
  | .lkS _ a => okS B T cls k cd a
  | c => okE B T cls k cd c
section
variable {B : Bs} {T : List Addr} {cls : Nat → Addr} {k : Nat}
theorem snd_asc {i : Nat} {c : IR} {cd : Prop} {X : Cx} {Wx : WX} {st : Stmt} (S : Sd B T cls k X true cd Wx) (ok : okS B T cls k cd (.asc i c)) (h : chkS X.N (.asc i c) X.env.scope st = true) : PS X st (DS (wd X T cls) Wx (.asc i c)) := by
  cases c with
  | cpr own g it t e =>
    cases st with
    | Assign ts v pos =>
      cases ts with
      | nil => cases (show false = true from h)
      | cons t' ts =>
        cases t' with
        | Name y py =>
          cases ts with
          | cons _ _ => cases (show false = true from h)
          | nil =>
            cases v with
            | ListComp elt gs scope vpos =>
              cases gs with
              | nil => cases (show false = true from h)
              | cons g1 gs =>
                obtain ⟨tg, iter, ifs, as⟩ := g1
                cases gs with
                | cons _ _ => cases (show false = true from h)
                | nil =>
                  simp only [chkS, Bool.and_eq_true, Bool.not_eq_true', List.all_eq_true, decide_eq_true_eq] at h
                  obtain ⟨⟨⟨⟨⟨⟨⟨⟨⟨⟨⟨rfl, h1⟩, h2⟩, h3⟩, h4⟩, h5⟩, h6⟩, h7⟩, h8⟩, h9⟩, h10⟩, h11⟩ := h
                  have hk : X.env.scope.kind = .function := S.kind rfl
                  exact s_asc S.g.calm S.g.nd h1 h2 (sw_true hk h2 h3 h4) (sndI it S ok.1 h8) (blkOk_by h5) h6 (fun s H C cl fp => sndG g (S.blk s H scope _ fp) ok.2.1 h9) (fun s H C cl fp => tests_of (fun e he => sndT t (S.blk s H scope _ fp) ok.2.2.1 he) h10) (fun s H C cl fp => sndE e (S.blk s H scope _ fp) ok.2.2.2 h11) (set_of h7)
            | _ => cases (show false = true from h)
        | _ => cases (show false = true from h)
    | _ => cases (show false = true from h)
  | _ => cases st <;> cases (show false = true from h)
mutual
theorem sndS : ∀ (c : IR) {cd : Prop} {X : Cx} {Wx : WX} {st : Stmt}, Sd B T cls k X true cd Wx → PassesOwn (model X.prog X.w) X.A X.env X.xe → okS B T cls k cd c → chkS X.N c X.env.scope st = true → PS X st (DS (wd X T cls) Wx c)
  | .asg g e, cd, X, Wx, st, S, po, ok, h => by
    cases st with
    | Assign ts v pos =>
      rcases ts with _ | ⟨t, _ | ⟨t', ts⟩⟩ <;> first | (cases (show false = true from h); done) | skip
      simp only [chkS, Bool.and_eq_true, Bool.not_eq_true'] at h
      obtain ⟨⟨⟨h1, h2⟩, h3⟩, h4⟩ := h
      have ns : isStar t = false := by cases t <;> first | rfl | (cases g <;> cases (show false = true from h3))
      exact s_asg (sndE e S ok.2 h4) (sndG g S ok.1 h3) (swap_of h2) (stores_or h1) (by rw [assignEach_of ns]; rfl)
    | _ => cases (show false = true from h)
  | .exp e, cd, X, Wx, st, S, po, ok, h => by
    cases st with
    | Expr v pos =>
      simp only [chkS, Bool.and_eq_true, Bool.not_eq_true'] at h
      exact s_exp (sndE e S ok h.2) (swap_of h.1)
    | _ => cases (show false = true from h)
  | .ret e, cd, X, Wx, st, S, po, ok, h => by
    cases st with
    | Return v pos =>
      cases v with
      | some v => exact s_ret (sndE e S ok h)
      | none => cases (show false = true from h)
    | _ => cases (show false = true from h)
  | .ret0, cd, X, Wx, st, S, po, ok, h => by
    cases st with
    | Return v pos =>
      cases v with
      | none => exact s_ret0
      | some v => cases (show false = true from h)
    | _ => cases (show false = true from h)
  | .ifS t a b, cd, X, Wx, st, S, po, ok, h => by
    cases st with
    | If c x y pos =>
      simp only [chkS, Bool.and_eq_true] at h
      exact s_if (sndT t S ok.1 h.1.1) (sndB a S po ok.2.1 h.1.2) (sndB b S po ok.2.2 h.2)
    | _ => cases (show false = true from h)
  | .whl t b, cd, X, Wx, st, S, po, ok, h => by
    cases st with
    | While c x y pos =>
      cases y with
      | nil =>
        simp only [chkS, Bool.and_eq_true] at h
        exact s_whl po (sndT t S ok.1 h.1) (sndB b S po ok.2 h.2)
      | cons _ _ => cases (show false = true from h)
    | _ => cases (show false = true from h)
  | .fr g it b, cd, X, Wx, st, S, po, ok, h => by
    cases st with
    | For tg iter x y pos =>
      cases y with
      | nil =>
        simp only [chkS, Bool.and_eq_true, Bool.not_eq_true'] at h
        exact s_for po S.g.calm (sndI it S ok.2.1 h.1.1.2) (sndG g S ok.1 h.1.2) (sndB b S po ok.2.2 h.2) (set_of h.1.1.1)
      | cons _ _ => cases (show false = true from h)
    | _ => cases (show false = true from h)
  | .brk, cd, X, Wx, st, S, po, ok, h => by
    cases st with
    | Break pos => exact s_brk
    | _ => cases (show false = true from h)
  | .cnt, cd, X, Wx, st, S, po, ok, h => by
    cases st with
    | Continue pos => exact s_cnt
    | _ => cases (show false = true from h)
  | .pas, cd, X, Wx, st, S, po, ok, h => by
    cases st with
    | Pass pos => exact s_pas
    | _ => cases (show false = true from h)
  | .nev, cd, X, Wx, st, S, po, ok, h => s_nev
  | .asc i c, cd, X, Wx, st, S, po, ok, h => snd_asc S ok h
  | .lkS i s, cd, X, Wx, st, S, po, ok, h => by
    simp only [chkS] at h
    exact s_lkS (sndS s S po ok h)
  | .sno f ev as, cd, X, Wx, st, S, po, ok, h => by
    simp only [chkS] at h
    split at h
    · rename_i es he
      exact ok.1 X Wx st es as S he (sndL as S ok.2 h)
    · cases h
  | .nop, cd, X, Wx, st, S, po, ok, h => nomatch (show false = true from h)
  | .var _, cd, X, Wx, st, S, po, ok, h => nomatch (show false = true from h)
  | .con _, cd, X, Wx, st, S, po, ok, h => nomatch (show false = true from h)
  | .glb _ _, cd, X, Wx, st, S, po, ok, h => nomatch (show false = true from h)
  | .bty _, cd, X, Wx, st, S, po, ok, h => nomatch (show false = true from h)
  | .bin _ _ _, cd, X, Wx, st, S, po, ok, h => nomatch (show false = true from h)
  | .neg _, cd, X, Wx, st, S, po, ok, h => nomatch (show false = true from h)
  | .cmp _ _ _, cd, X, Wx, st, S, po, ok, h => nomatch (show false = true from h)
  | .chn _ _ _ _ _, cd, X, Wx, st, S, po, ok, h => nomatch (show false = true from h)
  | .one _, cd, X, Wx, st, S, po, ok, h => nomatch (show false = true from h)
  | .andV _ _, cd, X, Wx, st, S, po, ok, h => nomatch (show false = true from h)
  | .orV _ _, cd, X, Wx, st, S, po, ok, h => nomatch (show false = true from h)
  | .notV _, cd, X, Wx, st, S, po, ok, h => nomatch (show false = true from h)
  | .ife _ _ _, cd, X, Wx, st, S, po, ok, h => nomatch (show false = true from h)
  | .ix _ _, cd, X, Wx, st, S, po, ok, h => nomatch (show false = true from h)
  | .sl _ _ _, cd, X, Wx, st, S, po, ok, h => nomatch (show false = true from h)
  | .tupC _, cd, X, Wx, st, S, po, ok, h => nomatch (show false = true from h)
  | .lstC _, cd, X, Wx, st, S, po, ok, h => nomatch (show false = true from h)
  | .lstM _, cd, X, Wx, st, S, po, ok, h => nomatch (show false = true from h)
  | .nil, cd, X, Wx, st, S, po, ok, h => nomatch (show false = true from h)
  | .cons _ _, cd, X, Wx, st, S, po, ok, h => nomatch (show false = true from h)
  | .cal _ _ _, cd, X, Wx, st, S, po, ok, h => nomatch (show false = true from h)
  | .bme _ _ _ _ _ _, cd, X, Wx, st, S, po, ok, h => nomatch (show false = true from h)
  | .mcl _ _ _ _, cd, X, Wx, st, S, po, ok, h => nomatch (show false = true from h)
  | .lkE _ _, cd, X, Wx, st, S, po, ok, h => nomatch (show false = true from h)
  | .itm _, cd, X, Wx, st, S, po, ok, h => nomatch (show false = true from h)
  | .ien _, cd, X, Wx, st, S, po, ok, h => nomatch (show false = true from h)
  | .cpr _ _ _ _ _, cd, X, Wx, st, S, po, ok, h => nomatch (show false = true from h)
  | .dcp _ _ _ _ _, cd, X, Wx, st, S, po, ok, h => nomatch (show false = true from h)
  | .frz _, cd, X, Wx, st, S, po, ok, h => nomatch (show false = true from h)
  | .nod _ _ _, cd, X, Wx, st, S, po, ok, h => nomatch (show false = true from h)
  | .tV _, cd, X, Wx, st, S, po, ok, h => nomatch (show false = true from h)
  | .tNot _, cd, X, Wx, st, S, po, ok, h => nomatch (show false = true from h)
  | .tOne _, cd, X, Wx, st, S, po, ok, h => nomatch (show false = true from h)
  | .tAnd _ _, cd, X, Wx, st, S, po, ok, h => nomatch (show false = true from h)
  | .tOr _ _, cd, X, Wx, st, S, po, ok, h => nomatch (show false = true from h)
  | .tnd _ _ _, cd, X, Wx, st, S, po, ok, h => nomatch (show false = true from h)
  | .ind _ _ _, cd, X, Wx, st, S, po, ok, h => nomatch (show false = true from h)
  | .itV _, cd, X, Wx, st, S, po, ok, h => nomatch (show false = true from h)
  | .itR1 _, cd, X, Wx, st, S, po, ok, h => nomatch (show false = true from h)
  | .itR2 _ _, cd, X, Wx, st, S, po, ok, h => nomatch (show false = true from h)
  | .gN _, cd, X, Wx, st, S, po, ok, h => nomatch (show false = true from h)
  | .gT _ _, cd, X, Wx, st, S, po, ok, h => nomatch (show false = true from h)
  | .gSub _ _, cd, X, Wx, st, S, po, ok, h => nomatch (show false = true from h)
  | .seq _ _, cd, X, Wx, st, S, po, ok, h => nomatch (show false = true from h)
theorem sndB : ∀ (c : IR) {cd : Prop} {X : Cx} {Wx : WX} {sts : List Stmt}, Sd B T cls k X true cd Wx → PassesOwn (model X.prog X.w) X.A X.env X.xe → okS B T cls k cd c → chkB X.N c X.env.scope sts = true → PSs X sts (DS (wd X T cls) Wx c)
  | .nil, cd, X, Wx, sts, S, po, ok, h => by
    cases sts with
    | nil => exact s_nil
    | cons _ _ => cases (show false = true from h)
  | .seq s r, cd, X, Wx, sts, S, po, ok, h => by
    cases sts with
    | nil => cases (show false = true from h)
    | cons st rest =>
      simp only [chkB, Bool.and_eq_true] at h
      exact s_seq (sndS s S po ok.1 h.1) (sndB r S po ok.2 h.2)
  | .nop, cd, X, Wx, sts, S, po, ok, h => nomatch (show false = true from h)
  | .var _, cd, X, Wx, sts, S, po, ok, h => nomatch (show false = true from h)
  | .con _, cd, X, Wx, sts, S, po, ok, h => nomatch (show false = true from h)
  | .glb _ _, cd, X, Wx, sts, S, po, ok, h => nomatch (show false = true from h)
  | .bty _, cd, X, Wx, sts, S, po, ok, h => nomatch (show false = true from h)
  | .bin _ _ _, cd, X, Wx, sts, S, po, ok, h => nomatch (show false = true from h)
  | .neg _, cd, X, Wx, sts, S, po, ok, h => nomatch (show false = true from h)
  | .cmp _ _ _, cd, X, Wx, sts, S, po, ok, h => nomatch (show false = true from h)
  | .chn _ _ _ _ _, cd, X, Wx, sts, S, po, ok, h => nomatch (show false = true from h)
  | .one _, cd, X, Wx, sts, S, po, ok, h => nomatch (show false = true from h)
  | .andV _ _, cd, X, Wx, sts, S, po, ok, h => nomatch (show false = true from h)
  | .orV _ _, cd, X, Wx, sts, S, po, ok, h => nomatch (show false = true from h)
  | .notV _, cd, X, Wx, sts, S, po, ok, h => nomatch (show false = true from h)
  | .ife _ _ _, cd, X, Wx, sts, S, po, ok, h => nomatch (show false = true from h)
  | .ix _ _, cd, X, Wx, sts, S, po, ok, h => nomatch (show false = true from h)
  | .sl _ _ _, cd, X, Wx, sts, S, po, ok, h => nomatch (show false = true from h)
  | .tupC _, cd, X, Wx, sts, S, po, ok, h => nomatch (show false = true from h)
  | .lstC _, cd, X, Wx, sts, S, po, ok, h => nomatch (show false = true from h)
  | .lstM _, cd, X, Wx, sts, S, po, ok, h => nomatch (show false = true from h)
  | .cons _ _, cd, X, Wx, sts, S, po, ok, h => nomatch (show false = true from h)
  | .cal _ _ _, cd, X, Wx, sts, S, po, ok, h => nomatch (show false = true from h)
  | .bme _ _ _ _ _ _, cd, X, Wx, sts, S, po, ok, h => nomatch (show false = true from h)
  | .mcl _ _ _ _, cd, X, Wx, sts, S, po, ok, h => nomatch (show false = true from h)
  | .lkE _ _, cd, X, Wx, sts, S, po, ok, h => nomatch (show false = true from h)
  | .lkS _ _, cd, X, Wx, sts, S, po, ok, h => nomatch (show false = true from h)
  | .itm _, cd, X, Wx, sts, S, po, ok, h => nomatch (show false = true from h)
  | .ien _, cd, X, Wx, sts, S, po, ok, h => nomatch (show false = true from h)
  | .cpr _ _ _ _ _, cd, X, Wx, sts, S, po, ok, h => nomatch (show false = true from h)
  | .dcp _ _ _ _ _, cd, X, Wx, sts, S, po, ok, h => nomatch (show false = true from h)
  | .frz _, cd, X, Wx, sts, S, po, ok, h => nomatch (show false = true from h)
  | .nod _ _ _, cd, X, Wx, sts, S, po, ok, h => nomatch (show false = true from h)
  | .tV _, cd, X, Wx, sts, S, po, ok, h => nomatch (show false = true from h)
  | .tNot _, cd, X, Wx, sts, S, po, ok, h => nomatch (show false = true from h)
  | .tOne _, cd, X, Wx, sts, S, po, ok, h => nomatch (show false = true from h)
  | .tAnd _ _, cd, X, Wx, sts, S, po, ok, h => nomatch (show false = true from h)
  | .tOr _ _, cd, X, Wx, sts, S, po, ok, h => nomatch (show false = true from h)
  | .tnd _ _ _, cd, X, Wx, sts, S, po, ok, h => nomatch (show false = true from h)
  | .ind _ _ _, cd, X, Wx, sts, S, po, ok, h => nomatch (show false = true from h)
  | .itV _, cd, X, Wx, sts, S, po, ok, h => nomatch (show false = true from h)
  | .itR1 _, cd, X, Wx, sts, S, po, ok, h => nomatch (show false = true from h)
  | .itR2 _ _, cd, X, Wx, sts, S, po, ok, h => nomatch (show false = true from h)
  | .gN _, cd, X, Wx, sts, S, po, ok, h => nomatch (show false = true from h)
  | .gT _ _, cd, X, Wx, sts, S, po, ok, h => nomatch (show false = true from h)
  | .gSub _ _, cd, X, Wx, sts, S, po, ok, h => nomatch (show false = true from h)
  | .asg _ _, cd, X, Wx, sts, S, po, ok, h => nomatch (show false = true from h)
  | .asc _ _, cd, X, Wx, sts, S, po, ok, h => nomatch (show false = true from h)
  | .exp _, cd, X, Wx, sts, S, po, ok, h => nomatch (show false = true from h)
  | .ret _, cd, X, Wx, sts, S, po, ok, h => nomatch (show false = true from h)
  | .ret0, cd, X, Wx, sts, S, po, ok, h => nomatch (show false = true from h)
  | .ifS _ _ _, cd, X, Wx, sts, S, po, ok, h => nomatch (show false = true from h)
  | .whl _ _, cd, X, Wx, sts, S, po, ok, h => nomatch (show false = true from h)
  | .fr _ _ _, cd, X, Wx, sts, S, po, ok, h => nomatch (show false = true from h)
  | .brk, cd, X, Wx, sts, S, po, ok, h => nomatch (show false = true from h)
  | .cnt, cd, X, Wx, sts, S, po, ok, h => nomatch (show false = true from h)
  | .pas, cd, X, Wx, sts, S, po, ok, h => nomatch (show false = true from h)
  | .sno _ _ _, cd, X, Wx, sts, S, po, ok, h => nomatch (show false = true from h)
  | .nev, cd, X, Wx, sts, S, po, ok, h => nomatch (show false = true from h)
end

/-! ### a def's promise -/
mutual
/-- the cells that a datum names are below n -/
def objB (n : Nat) : D → Bool
  | .tup ds => objBs n ds
  | .lst ds => objBs n ds
  | .scr ds => objBs n ds
  | .obj k => decide (k < n)
  | _ => true
def objBs (n : Nat) : List D → Bool
  | [] => true
  | d :: ds => objB n d && objBs n ds
end
mutual
theorem Rep.down {K : PySem.W.Frag} {w w' : Vw} (hx : Ext w.G w'.G) (hr : ∀ k, k < w'.n → w'.ρ k = w.ρ k) : ∀ {d : D} {v : V}, Rep K w d v → objB w'.n d = true → Rep K w' d v
  | .non, _, h, _ => h
  | .bl _, _, h, _ => h
  | .int _, _, h, _ => h
  | .str _, _, h, _ => h
  | .ty _, _, h, _ => h
  | .tup _, _, ⟨a, xs, e, s, r⟩, p => ⟨a, xs, e, hx.sqt s, Reps.down hx hr r p⟩
  | .lst _, _, ⟨a, xs, e, s, r⟩, p => ⟨a, xs, e, hx.at s (fun _ z => by cases z), Reps.down hx hr r p⟩
  | .scr _, _, ⟨a, xs, e, s, r⟩, p => ⟨a, xs, e, hx.sql s, Reps.down hx hr r p⟩
  | .obj k, _, ⟨_, e⟩, p => by
    have p : k < w'.n := of_decide_eq_true p
    exact ⟨p, by rw [hr k p]; exact e⟩
theorem Reps.down {K : PySem.W.Frag} {w w' : Vw} (hx : Ext w.G w'.G) (hr : ∀ k, k < w'.n → w'.ρ k = w.ρ k) : ∀ {ds : List D} {xs : List V}, Reps K w ds xs → objBs w'.n ds = true → Reps K w' ds xs
  | [], _, h, _ => h
  | _ :: _, _, ⟨x, r, e, h, t⟩, p => by
    have p : (objB w'.n _ && objBs w'.n _) = true := p
    rw [Bool.and_eq_true] at p
    exact ⟨x, r, e, Rep.down hx hr h p.1, Reps.down hx hr t p.2⟩
end
def cellB (n : Nat) : Cell → Bool
  | .lst ds => objBs n ds
  | .dct kvs => objBs n (kvs.map (·.2))
  | .lck kvs _ _ => objBs n (kvs.map (·.2))
  | .ins _ fs => objBs n (fs.map (·.2))
theorem RepP.down {κ : Type} {K : PySem.W.Frag} {w w' : Vw} (hx : Ext w.G w'.G) (hr : ∀ k, k < w'.n → w'.ρ k = w.ρ k) : ∀ {ds : List (κ × D)} {xs : List (κ × V)}, RepP K w ds xs → objBs w'.n (ds.map (·.2)) = true → RepP K w' ds xs
  | [], _, h, _ => h
  | (_, _) :: _, _, ⟨x, r, e, h, t⟩, p => by
    have p : (objB w'.n _ && objBs w'.n _) = true := p
    rw [Bool.and_eq_true] at p
    exact ⟨x, r, e, Rep.down hx hr h p.1, RepP.down hx hr t p.2⟩
/-- μ1 is part of μ: some of its cells, as they are, counted from fewer -/
structure Sto.Part (μ1 μ : Sto) : Prop where
  nx : μ1.next ≤ μ.next
  sub : ∀ j c, μ1.cell j = some c → μ.cell j = some c ∧ j < μ1.next ∧ cellB μ1.next c = true
theorem Rl.part {W : Wd} {S : Ss} {μ1 : Sto} (R : Rl W S) (h : μ1.Part S.μ) : Ext (hid S) (hid { S with μ := μ1 }) ∧ Rl W { S with μ := μ1 } := by
  have ex : ∀ a u, hid S a = some u → hid { S with μ := μ1 } a = some u := fun a u e => by
    obtain ⟨e1, e2⟩ := hid_some.mp e
    refine hid_some.mpr ⟨e1, ?_⟩
    rintro (⟨j, d, e, h3⟩ | h3)
    · exact e2 (.inl ⟨j, d, (h.sub j d e).1, h3⟩)
    · exact e2 (.inr h3)
  have hx : Ext (hid S) (hid { S with μ := μ1 }) := Ext.of_ex ex
  refine ⟨hx, fun i j d e h1 h2 h3 => R.inj i j d e (h.sub _ _ h1).1 (h.sub _ _ h2).1 h3, fun j d e => (h.sub _ _ e).2.1, fun j d e => ?_, fun a ha => tab_ext hx (R.tab a ha), fun a u e => ⟨(R.prv a u e).1, fun j d e2 => (R.prv a u e).2 j d (h.sub _ _ e2).1⟩, lam_ex R.lam ex⟩
  obtain ⟨q1, q2, q3⟩ := h.sub j d e
  have q := R.ok j d q1
  cases d with
  | lst ds => obtain ⟨xs, e1, r⟩ := q; exact ⟨xs, e1, Reps.down (w := S.vw) (w' := Ss.vw { S with μ := μ1 }) hx (fun _ _ => rfl) r q3⟩
  | dct kvs => obtain ⟨xs, e1, r⟩ := q; exact ⟨xs, e1, RepP.down (w := S.vw) (w' := Ss.vw { S with μ := μ1 }) hx (fun _ _ => rfl) r q3⟩
  | ins c fs => obtain ⟨dx, xs, e1, r⟩ := q; exact ⟨dx, xs, e1, RepP.down (w := S.vw) (w' := Ss.vw { S with μ := μ1 }) hx (fun _ _ => rfl) r q3⟩
  | lck kvs o es => exact ⟨q.1, RepP.down (w := S.vw) (w' := Ss.vw { S with μ := μ1 }) hx (fun _ _ => rfl) q.2 q3⟩
/-- behind a def's body: what is told of its end may leave out cells -/
def finP (n : Nat) (Q : Post) : Post := fun d μ' => ∃ μ1, n ≤ μ1.next ∧ μ1.Part μ' ∧ objB μ1.next d = true ∧ Q d μ1
def finX (n : Nat) (Q : XPost) : XPost := fun x μ' => ∃ μ1, n ≤ μ1.next ∧ μ1.Part μ' ∧ Q x μ1
def outs (n : Nat) (Q : Post) (QX : XPost) : Outs := ⟨fun _ μ' => finP n Q .non μ', finP n Q, fun _ _ => False, fun _ _ => False, fun x _ μ' => finX n QX x μ'⟩
def startE (N : List Str) (ds : List D) : Env := ds.map some ++ List.replicate (N.length - ds.length) none
theorem env_start {W : Wd} {w : Vw} {N : List Str} {ds : List D} {vs : List V} (r : Reps W.K w ds vs) : EnvR W w (startE N ds) (L2.start N vs) := by
  unfold startE L2.start
  refine ⟨by simp [r.length], fun i d e => ?_⟩
  have hl := r.length
  by_cases hi : i < ds.length
  · rw [List.getElem?_append_left (by simpa using hi), List.getElem?_map, List.getElem?_eq_getElem hi] at e
    obtain ⟨v, ev, rv⟩ := r.get (List.getElem?_eq_getElem hi)
    cases e
    exact ⟨v, by rw [List.getElem?_append_left (by simpa [hl] using hi), List.getElem?_map, ev]; rfl, rv⟩
  · rw [List.getElem?_append_right (by simpa using hi), List.getElem?_replicate] at e
    split at e <;> cases e
/-- a store as a store is -/
def Sto.wf (μ : Sto) : Prop := ∀ k c, μ.cell k = some c → k < μ.next ∧ cellB μ.next c = true
mutual
theorem Rep.objB {K : PySem.W.Frag} {w : Vw} : ∀ {d : D} {v : V}, Rep K w d v → M.objB w.n d = true
  | .non, _, _ => rfl
  | .bl _, _, _ => rfl
  | .int _, _, _ => rfl
  | .str _, _, _ => rfl
  | .ty _, _, _ => rfl
  | .tup _, _, ⟨_, _, _, _, r⟩ => Reps.objB r
  | .lst _, _, ⟨_, _, _, _, r⟩ => Reps.objB r
  | .scr _, _, ⟨_, _, _, _, r⟩ => Reps.objB r
  | .obj _, _, ⟨h, _⟩ => decide_eq_true h
theorem Reps.objB {K : PySem.W.Frag} {w : Vw} : ∀ {ds : List D} {xs : List V}, Reps K w ds xs → objBs w.n ds = true
  | [], _, _ => rfl
  | _ :: _, _, ⟨_, _, _, h, t⟩ => by
    show (M.objB w.n _ && objBs w.n _) = true
    rw [Rep.objB h, Reps.objB t]
    rfl
end
theorem RepP.objB {κ : Type} {K : PySem.W.Frag} {w : Vw} : ∀ {ds : List (κ × D)} {xs : List (κ × V)}, RepP K w ds xs → objBs w.n (ds.map (·.2)) = true
  | [], _, _ => rfl
  | (_, _) :: _, _, ⟨_, _, _, h, t⟩ => by
    show (M.objB w.n _ && objBs w.n _) = true
    rw [Rep.objB h, RepP.objB t]
    rfl
theorem Rl.wf {W : Wd} {S : Ss} (R : Rl W S) : S.μ.wf := fun k c h => by
  refine ⟨R.lt k c h, ?_⟩
  have q := R.ok k c h
  cases c with
  | lst ds => obtain ⟨xs, e1, r⟩ := q; exact r.objB
  | dct kvs => obtain ⟨xs, e1, r⟩ := q; exact r.objB
  | ins c fs => obtain ⟨dx, xs, e1, r⟩ := q; exact r.objB
  | lck kvs o es => exact q.2.objB
theorem fn_ok {x qual : Str} {st : Stmt} {f : Addr} {fd : FuncData} {N ps : List Str} {sp : Spec} {c : IR} {cd : Prop} (F : Fun B.K x qual st f fd) (S : FnScope N ps (defScope st)) (hc : chkB N c (defScope st) (defBody st) = true) (ok : okS B T cls k cd c)
    (hcd : cd → ∀ cdv, PySem.W.codeIn B.K cdv qual = true → (∃ oc od kV doc pm an ct osl, B.K.lookup f = some ⟨oc, od, .func (PySem.W.fnOf x qual (defArgs st) (defBody st) (defScope st) .none kV doc pm an cdv ct), osl⟩) → ∃ c P, cdv = .ref c ∧ GxR.TabB B.base B.mg c P ∧ P ∈ T)
    (hld : lamK (defScope st) = true → qual ++ ".<locals>." ++ "<lambda>" = lamQ ∧ ∀ cdv, PySem.W.codeIn B.K cdv qual = true → (∃ oc od kV doc pm an ct osl, B.K.lookup f = some ⟨oc, od, .func (PySem.W.fnOf x qual (defArgs st) (defBody st) (defScope st) .none kV doc pm an cdv ct), osl⟩) → ∃ c, cdv = .ref c ∧ LamX.TabB B.base B.mg c (cls 1000))
    (h : ∀ ds μ Q QX, μ.wf → objBs μ.next ds = true → sp ds μ Q QX → ds.length = ps.length ∧ wpS c (startE N ds) μ (outs μ.next Q QX)) (hl : ∀ ds μ Q QX, sp ds μ Q QX → ds.length = ps.length) : FnOk B.P B.w B.K B.mg B.base (L2.CX B.P B.w) (k + 1) f fd ps (lift ⟨B.K, T, cls⟩ sp) := by
  obtain ⟨oc, od, kV, doc, pm, an, cdv, ct, osl, rfl, lk, hcode⟩ := F.ex
  refine fn_of lk hcode S (fun vs H Q E h => ?_) fun A outer s H vs Q E hr hsp => ?_
  · obtain ⟨S0, ds, QM, QX, rfl, R, r, hs, _, _⟩ := h
    rw [r.length]
    exact hl _ _ _ _ hs
  · obtain ⟨S0, ds, QM, QX, rfl, R, r, hs, hq, hx⟩ := hsp
    obtain ⟨_, hw⟩ := h ds S0.μ QM QX R.wf r.objB hs
    refine ⟨DS ⟨B.K, T, cls⟩ (fun cl d _ H => E cl d H) c, ?_, ?_⟩
    · refine sndB (B := B) (k := k) (cd := cd) (X := cxOf (L2.CX B.P B.w) B.P B.w B.K B.mg B.base N qual (defScope st) f cdv A outer s S0.H E) c ⟨rfl, ⟨rfl, S.nd, hr, fun _ _ => rfl⟩, fun z => ?_, takes_of rfl rfl rfl rfl, (fun h => by cases h), fun _ => S.kind, fun _ e => ⟨(hld e).1, (hld e).2 cdv hcode ⟨oc, od, kV, doc, pm, an, ct, osl, lk⟩⟩⟩ (passes_of rfl) ok hc
      obtain ⟨c1, P, e1, tb, hP⟩ := hcd z cdv hcode ⟨oc, od, kV, doc, pm, an, ct, osl, lk⟩
      exact ⟨c1, P, e1, tb, hP⟩
    · refine ⟨S0, startE N ds, outs S0.μ.next QM QX, rfl, R, env_start r, hw, ?_⟩
      have fin : ∀ S' d v, S0.le S' → Rl ⟨B.K, T, cls⟩ S' → Rep B.K S'.vw d v → finP S0.μ.next QM d S'.μ → Q v S'.H := by
        rintro S' d v l R' r' ⟨μ1, hn, hp, ho, q⟩
        obtain ⟨hx1, R1⟩ := R'.part hp
        exact hq { S' with μ := μ1 } d v ⟨⟨l.1.1.trans hx1, l.1.2.1, hn⟩, l.2⟩ R1 (Rep.down (w := S'.vw) (w' := Ss.vw { S' with μ := μ1 }) hx1 (fun _ _ => rfl) r' ho) q
      refine ⟨fun S' δ' σ' l R' _ q => fin S' .non .non l R' rfl q, fun S' d v l R' r' q => fin S' d v l R' r' q, fun _ _ _ _ _ _ q => q.elim, fun _ _ _ _ _ _ q => q.elim, ?_⟩
      rintro S' x δ' σ' l R' _ ⟨μ1, hn, hp, q⟩
      obtain ⟨hx1, R1⟩ := R'.part hp
      exact hx { S' with μ := μ1 } x ⟨⟨l.1.1.trans hx1, l.1.2.1, hn⟩, l.2⟩ R1 q
end
end M
end

section
set_option Elab.async false
set_option linter.all false
set_option maxRecDepth 100000
set_option maxHeartbeats 4000000
set_option autoImplicit false
/-! M: nodes. -/
namespace M
open PySem PySem.Spec PyProof.Rows L2
section
variable {B : Bs} {T : List Addr} {cls : Nat → Addr} {k : Nat} {cd : Prop} {X : Cx} {Wx : WX}
/-! ### raise of an own class -/
def fRse (x : Str) : SF := fun _ sc st => match st with
  | .Raise (some (.Call (.Name y _) [.Constant (.str _) _ _] [] _)) none _ => if x = y ∧ glB sc y = true then some [] else none
  | _ => none
def eRse (c : Nat) : EvS := fun δ _ μ O => O.xc c δ μ
def RsC (B : Bs) (cls : Nat → Addr) (x : Str) (c : Nat) : Prop :=
  B.mg x = some (.ref (cls c)) ∧ PySem.W.keepIn B.K (.ref (cls c)) = true ∧ (x == ("__debug__" : Str)) = false ∧ (∃ Bn newId initId bm, ExcBaseFacts Bn newId initId bm ∧ PySem.W.excIn B.K (cls c) bm newId = true) ∧
    PySem.W.subIn B.K (.ref (cls c)) (.type "BaseException") = some true ∧ PySem.W.typeIn B.K (.ref (cls c)) = some (.type "type")
theorem n_rse {x : Str} {c : Nat} (h : RsC B cls x c) : SnoOk B T cls k cd (fRse x) (eRse c) := by
  intro X Wx st es as S hf hp
  unfold fRse at hf
  split at hf
  · rename_i y p m j p2 p3 pos
    split at hf
    · rename_i hc
      obtain ⟨rfl, hg⟩ := hc
      cases hf
      have e := hp.none
      subst e
      have hB := S.bs
      subst hB
      obtain ⟨gC, kC, hd, ⟨Bn, n1, n2, bm, F, q⟩, h1, h2⟩ := h
      refine PS.weak (ps_raise S.g.calm S.tk (pmk_own F q gC kC (raises_own h1 h2) (gl_of hg) hd)) fun E σ H h => ?_
      obtain ⟨S0, δ, O, rfl, R, hE, hw, C⟩ := h
      simp only [wpS, wpA, eRse] at hw
      exact C.xc S0 c δ σ (.refl _) R hE hw
    · cases hf
  · cases hf

/-! ### max(xs, default=z) -/
def maxI (z : Int) : List Int → Int
  | [] => z
  | n :: ns => ns.foldl max n
theorem foldl_max : ∀ (ns : List Int) (n : Int), (ns.foldl max n ∈ n :: ns) ∧ ∀ y ∈ n :: ns, y ≤ ns.foldl max n
  | [], n => ⟨List.mem_cons_self, fun y hy => by simp only [List.mem_singleton] at hy; rw [hy]; exact Int.le_refl _⟩
  | m :: ns, n => by
    obtain ⟨h1, h2⟩ := foldl_max ns (max n m)
    refine ⟨?_, fun y hy => ?_⟩
    · show ns.foldl max (max n m) ∈ _
      rcases List.mem_cons.mp h1 with e | e
      · rw [e]
        by_cases hnm : n ≤ m
        · rw [show max n m = m by omega]; simp
        · rw [show max n m = n by omega]; simp
      · exact List.mem_cons_of_mem _ (List.mem_cons_of_mem _ e)
    · show y ≤ ns.foldl max (max n m)
      have h3 := h2 (max n m) List.mem_cons_self
      rcases List.mem_cons.mp hy with e | e
      · omega
      · rcases List.mem_cons.mp e with e | e
        · omega
        · exact h2 y (List.mem_cons_of_mem _ e)
theorem maxI_of {z m : Int} {ns : List Int} (h : ns = [] ∧ m = z ∨ m ∈ ns ∧ ∀ y ∈ ns, y ≤ m) : m = maxI z ns := by
  rcases h with ⟨rfl, rfl⟩ | ⟨h1, h2⟩
  · rfl
  · cases ns with
    | nil => cases h1
    | cons n ns =>
      obtain ⟨h3, h4⟩ := foldl_max ns n
      have := h2 _ h3
      have := h4 _ h1
      show m = ns.foldl max n
      omega
def eMaxD (z : Int) : EvE := fun _ ds μ Q _ => match ds with
  | [d] => ∃ ns : List Int, asL d μ = some (ns.map .int) ∧ Q (.int (maxI z ns)) μ
  | _ => False
def fMaxD (z : Int) : XF := fun _ sc _ e => match e with
  | .Call (.Name y _) [e] [⟨some kw, .Constant (.int j) _ _, _⟩] _ => if y = ("max" : Str) ∧ glB sc y = true ∧ kw = Str.ofString "default" ∧ z = j ∧ isStar e = false then some [e] else none
  | _ => none
theorem reps_ints {K : PySem.W.Frag} {w : Vw} : ∀ {ns : List Int} {xs : List V}, Reps K w (ns.map .int) xs → xs = ns.map V.int
  | [], _, h => h
  | n :: ns, _, ⟨x, r, e, h, t⟩ => by
    have h : x = .int n := h
    rw [e, h, reps_ints t]
    rfl
theorem cr_maxKw (hc : X.calm = true) : CallRK X (.builtin "max") [Str.ofString "default"] fun vs zs H Q => ∃ (a : Addr) (ns : List Int) (z : Int), vs = [V.ref a] ∧ zs = [.int z] ∧ SqL X.K H a (ns.map V.int) ∧ Q (.int (maxI z ns)) H := by
  intro pins s σ H vs zs us ws Q I r rz h
  obtain ⟨a, ns, z, rfl, rfl, hs, q⟩ := h
  obtain rfl := Vals.ref1 r
  obtain ⟨w1, rfl, tz, rfl⟩ := vals1 rz
  obtain ⟨its, rv, hl, _⟩ := I.list hs
  have hi := rv.ints
  have hl := hl.isList
  obtain ⟨xs, e⟩ := hi.allInts.items
  have hn : numsOf (intItems xs).toList = ns := by rw [← e]; exact hi.numsOf
  rw [nums_intItems] at hn
  subst hn
  rw [e] at hl
  have hh := I.ok.hd hc
  refine call_maxKw (iter_intList hl fun s2 e2 st hfp hlI => ?_)
  subst e2
  refine ⟨_, _, _, _, _, _, _, rfl, Walks.list (A := X.A.in1) hh _ a hlI (intItems xs), st, hfp, CmpOf.ints_gt (numAt xs) (fun _ _ => intItems_at), fun v h' tk hv hk => ?_⟩
  have J := I.kept (t' := tk) (old_kept hk)
  have hsz : (intItems xs).size = xs.size := by simp [intItems]
  rcases hv with ⟨h0, rfl⟩ | ⟨h0, hP⟩
  · rw [hsz] at h0
    have : xs.toList.map (·.1) = [] := by
      have : xs.toList = [] := by
        rw [← List.length_eq_zero_iff, Array.length_toList]
        exact h0
      rw [this]
      rfl
    rw [this] at q
    exact ⟨.int z, H, J, ⟨_, rfl⟩, q⟩
  · have hP : (intItems xs)[argBest (fun i j => decide (numAt xs i > numAt xs j)) ((intItems xs).size - 1)]? = some v := hP
    rw [hsz] at hP h0
    obtain ⟨t, rfl⟩ := intItems_at hP
    obtain ⟨h1, h2⟩ := argBest_gt (numAt xs) (xs.size - 1)
    have em := maxI_of (z := z) (m := numAt xs (argBest (fun i j => decide (numAt xs i > numAt xs j)) (xs.size - 1))) (ns := xs.toList.map (·.1)) (.inr ⟨?_, fun b hb => ?_⟩)
    · rw [← em] at q
      exact ⟨.int _, H, J, ⟨_, rfl⟩, q⟩
    · rw [numAt_eq]; exact PySem.getD_mem (by rw [List.length_map, Array.length_toList]; omega)
    · obtain ⟨j, hj, rfl⟩ := mem_getD hb
      rw [List.length_map, Array.length_toList] at hj
      rw [← numAt_eq]; exact h2 j (by omega)
theorem n_maxD {z : Int} (h : B.mg "max" = none) : NodOk B T cls k cd (fMaxD z) (eMaxD z) := by
  intro X top Wx e es as S hf hp
  unfold fMaxD at hf
  split at hf
  · rename_i y p e kw j j2 p2 kp pos
    split at hf
    · rename_i hc
      obtain ⟨rfl, hg, rfl, rfl, hst⟩ := hc
      cases hf
      obtain ⟨ci, rfl, _, hi⟩ := hp.one
      have hB := S.bs
      subst hB
      refine PE.weak (pe_callBK (cr_maxKw S.g.calm) (gl_of hg) h (show bootBuiltins "max" = some (.builtin "max") by decide +kernel) (pa_cons hi pa_nil (star_of hst)) (pk_cons pe_int pk_nil) (by decide) (by decide) (by rw [star_of hst]; rfl) (by rw [star_of hst]; rfl) rfl rfl rfl) fun σ H Q hh => ?_
      obtain ⟨S0, δ, QM, QX, rfl, R, hE, hw, hq, hx⟩ := hh
      simp only [wpE, wpA] at hw
      refine ⟨S0, δ, _, QX, rfl, R, hE, hw, fun S1 d1 v1 l1 R1 r1 w1 => ?_, hx⟩
      obtain ⟨ns, e1, q⟩ := w1
      obtain ⟨a, xs, rfl, hs, rr⟩ := asL_rep R1 r1 e1
      rw [reps_ints rr] at hs
      exact ⟨a, ns, z, rfl, rfl, hs, hq S1 (.int _) _ l1 R1 rfl q⟩
    · cases hf
  · cases hf

/-! ### a written dict with text keys -/
def GdC (B : Bs) (g : Str) (tbl : List (Str × D)) : Prop := ∃ p es n, B.mg g = some (.ref p) ∧ B.K.lookup p = some ⟨.type "dict", none, .dict es n, #[]⟩ ∧ PySem.W.KeysLit B.w.params es.toList ∧ (p == sysModules) = false ∧
  ∀ z, match tbl.lookup z with
    | some d => ∃ u v, PySem.W.nsIn B.K p z = some (some u) ∧ RelV v u ∧ ∀ w, Rep B.K w d v
    | none => PySem.W.nsIn B.K p z = some none
def KIn (K : PySem.W.Frag) (w : World) (neg : Bool) : R2 := fun x y H Q => ∃ p z es n r, y = .ref p ∧ x = .str z ∧ K.lookup p = some ⟨.type "dict", none, .dict es n, #[]⟩ ∧ PySem.W.KeysLit w.params es.toList ∧ (p == sysModules) = false ∧ PySem.W.nsIn K p z = some r ∧ Q (.bl (r.isSome != neg)) H
theorem op_kin : OpR X (compareOp .In) (KIn X.K X.w false) := by
  intro pins s σ H x y v u Q I rx ry h
  obtain ⟨p, z, es, n, r, rfl, rfl, hl, hk, low, e, q⟩ := h
  obtain ⟨t, rfl⟩ := rx
  obtain rfl : u = Value.ref p := ry
  have hm := PySem.W.mapOf_K (prog := X.prog) (w := X.w) I.kIn hl hk
  refine wpAny_in_of (strKind_is X.prog X.w z t) low hm ?_
  rw [PySem.W.find_K hl e]
  rw [Bool.bne_false] at q
  exact ⟨.bl _, H, I.tok _, rfl, q⟩
theorem op_knin : OpR X (compareOp .NotIn) (KIn X.K X.w true) := by
  intro pins s σ H x y v u Q I rx ry h
  obtain ⟨p, z, es, n, r, rfl, rfl, hl, hk, low, e, q⟩ := h
  obtain ⟨t, rfl⟩ := rx
  obtain rfl : u = Value.ref p := ry
  have hm := PySem.W.mapOf_K (prog := X.prog) (w := X.w) I.kIn hl hk
  refine wpAny_notIn_of (strKind_is X.prog X.w z t) low hm ?_
  rw [PySem.W.find_K hl e]
  rw [Bool.bne_true] at q
  exact ⟨.bl _, H, I.tok _, rfl, q⟩
/-- e in G, e not in G -/
def eGin (neg : Bool) (tbl : List (Str × D)) : EvE := fun _ ds μ Q _ => match ds with
  | [.str z] => Q (.bl ((tbl.lookup z).isSome != neg)) μ
  | _ => False
def eGinT (neg : Bool) (tbl : List (Str × D)) : EvT := fun _ ds μ Q _ => match ds with
  | [.str z] => Q ((tbl.lookup z).isSome != neg) μ
  | _ => False
def inOp : Bool → CmpOp
  | true => .NotIn
  | false => .In
def fGin (neg : Bool) (g : Str) : XF := fun _ sc _ e => match e with
  | .Compare a [o] [.Name y p] _ => if o = inOp neg ∧ g = y ∧ glB sc y = true ∧ okName y = true then some [a] else none
  | _ => none
theorem gin_read {neg : Bool} {g : Str} {tbl : List (Str × D)} {ci : IR} {σ : L2.St} {H : Hp} {Q : VK} {p : Addr} (hg : B.mg g = some (.ref p)) (hB : Cx.bs X = B) (h : GdC B g tbl)
    (hh : ∃ S δ QM QX, S.H = H ∧ Rl (wd X T cls) S ∧ EnvR (wd X T cls) S.vw δ σ ∧ wpE ci δ S.μ (fun x μ1 => eGin neg tbl δ [x] μ1 QM QX) QX ∧ After (wd X T cls) S QM Q ∧ AfterX (wd X T cls) S QX (WE Wx σ)) :
    DE (wd X T cls) Wx ci σ H fun x H1 => tC (.ref p) σ H1 fun y H2 => KIn X.K X.w neg x y H2 Q := by
  subst hB
  obtain ⟨S0, δ, QM, QX, rfl, R, hE, hw, hq, hx⟩ := hh
  refine ⟨S0, δ, _, QX, rfl, R, hE, hw, fun S1 d1 v1 l1 R1 r1 w1 => ?_, hx⟩
  dsimp only [eGin] at w1
  split at w1
  · rename_i z hz
    cases hz
    obtain ⟨p', es, n, e1, e2, e3, e4, e5⟩ := h
    have hp : p' = p := by
      rw [hg] at e1
      cases e1
      rfl
    subst hp
    have := e5 z
    cases hl : tbl.lookup z with
    | some d =>
      rw [hl] at this w1
      obtain ⟨u, v, f1, _, _⟩ := this
      exact ⟨p', z, es, n, _, rfl, r1, e2, e3, e4, f1, hq S1 (.bl _) _ l1 R1 rfl w1⟩
    | none =>
      rw [hl] at this w1
      exact ⟨p', z, es, n, _, rfl, r1, e2, e3, e4, this, hq S1 (.bl _) _ l1 R1 rfl w1⟩
  · exact w1.elim
theorem n_gin {neg : Bool} {g : Str} {tbl : List (Str × D)} (h : GdC B g tbl) : NodOk B T cls k cd (fGin neg g) (eGin neg tbl) := by
  intro X top Wx e es as S hf hp
  unfold fGin at hf
  split at hf
  · rename_i a o y p pos
    split at hf
    · rename_i hc
      obtain ⟨rfl, rfl, hg, hn⟩ := hc
      cases hf
      obtain ⟨ci, rfl, _, hi⟩ := hp.one
      have hB := S.bs
      subst hB
      obtain ⟨p', es', n, e1, e2, e3⟩ := id h
      cases neg with
      | false =>
        refine PE.weak (pe_cmpR (op := .In) op_kin hi (pe_glob (gl_of hg) e1 (v := .ref p') rfl (okN hn).1) rfl) fun σ H Q hh => ?_
        obtain ⟨S0, δ, QM, QX, h0, R, hE, hw, hq, hx⟩ := hh
        simp only [wpE, wpA] at hw
        exact gin_read e1 rfl h ⟨S0, δ, QM, QX, h0, R, hE, hw, hq, hx⟩
      | true =>
        refine PE.weak (pe_cmpR (op := .NotIn) op_knin hi (pe_glob (gl_of hg) e1 (v := .ref p') rfl (okN hn).1) rfl) fun σ H Q hh => ?_
        obtain ⟨S0, δ, QM, QX, h0, R, hE, hw, hq, hx⟩ := hh
        simp only [wpE, wpA] at hw
        exact gin_read e1 rfl h ⟨S0, δ, QM, QX, h0, R, hE, hw, hq, hx⟩
    · cases hf
  · cases hf
theorem n_ginT {neg : Bool} {g : Str} {tbl : List (Str × D)} (h : GdC B g tbl) : TndOk B T cls k cd (fGin neg g) (eGinT neg tbl) := by
  intro X top Wx e es as S hf hp
  unfold fGin at hf
  split at hf
  · rename_i a o y p pos
    split at hf
    · rename_i hc
      obtain ⟨rfl, rfl, hg, hn⟩ := hc
      cases hf
      obtain ⟨ci, rfl, _, hi⟩ := hp.one
      have hB := S.bs
      subst hB
      obtain ⟨p', es', n, e1, e2, e3⟩ := id h
      have rd : ∀ σ H Q, DT (wd X T cls) Wx (.tnd (fGin neg g) (eGinT neg tbl) (.cons ci .nil)) σ H Q → DE (wd X T cls) Wx ci σ H fun x H1 => tC (.ref p') σ H1 fun y H2 => KIn X.K X.w neg x y H2 fun v H3 => ∃ b, v = .bl b ∧ Q b H3 := fun σ H Q hh => by
        obtain ⟨S0, δ, QM, QX, h0, R, hE, hw, hq, hx⟩ := hh
        simp only [wpT, wpA] at hw
        refine gin_read e1 rfl h ⟨S0, δ, (fun d μ => ∃ b, d = .bl b ∧ QM b μ), QX, h0, R, hE, ?_, fun S' d v l R' r q => ?_, hx⟩
        · refine (show (fun x μ1 => eGin neg tbl δ [x] μ1 (fun d μ => ∃ b, d = .bl b ∧ QM b μ) QX) = (fun x μ1 => eGinT neg tbl δ [x] μ1 QM QX) from ?_) ▸ hw
          funext x μ1
          apply propext
          unfold eGin eGinT
          split
          · exact ⟨fun ⟨b, e, q⟩ => by cases e; exact q, fun q => ⟨_, rfl, q⟩⟩
          · exact Iff.rfl
        · obtain ⟨b, rfl, q⟩ := q
          exact ⟨b, r, hq S' b l R' q⟩
      cases neg with
      | false => exact PT.weak (pt_cmpR (op := .In) op_kin hi (pe_glob (gl_of hg) e1 (v := .ref p') rfl (okN hn).1) rfl) rd
      | true => exact PT.weak (pt_cmpR (op := .NotIn) op_knin hi (pe_glob (gl_of hg) e1 (v := .ref p') rfl (okN hn).1) rfl) rd
    · cases hf
  · cases hf
/-- G[e] -/
def eGix (tbl : List (Str × D)) : EvE := fun _ ds μ Q _ => match ds with
  | [.str z] => match tbl.lookup z with
    | some d => Q d μ
    | none => False
  | _ => False
def fGix (g : Str) : XF := fun _ sc _ e => match e with
  | .Subscript (.Name y p) a _ => if g = y ∧ glB sc y = true ∧ okName y = true ∧ isSlice a = false then some [a] else none
  | _ => none
theorem n_gix {g : Str} {tbl : List (Str × D)} (h : GdC B g tbl) : NodOk B T cls k cd (fGix g) (eGix tbl) := by
  intro X top Wx e es as S hf hp
  unfold fGix at hf
  split at hf
  · rename_i y p a pos
    split at hf
    · rename_i hc
      obtain ⟨rfl, hg, hn, hsl⟩ := hc
      cases hf
      obtain ⟨ci, rfl, _, hi⟩ := hp.one
      have hB := S.bs
      subst hB
      obtain ⟨p', es', n, e1, e2, e3, e4, e5⟩ := id h
      refine PE.weak (pe_ix ix_kdict (pe_glob (gl_of hg) e1 (v := .ref p') rfl (okN hn).1) hi (plainIx_of hsl)) fun σ H Q hh => ?_
      obtain ⟨S0, δ, QM, QX, rfl, R, hE, hw, hq, hx⟩ := hh
      simp only [wpE, wpA] at hw
      refine ⟨S0, δ, _, QX, rfl, R, hE, hw, fun S1 d1 v1 l1 R1 r1 w1 => ?_, hx⟩
      dsimp only [eGix] at w1
      split at w1
      · rename_i z hz
        cases hz
        have := e5 z
        cases hl : tbl.lookup z with
        | some d =>
          rw [hl] at this w1
          obtain ⟨u, v, f1, f2, f3⟩ := this
          exact ⟨p', z, v, rfl, r1, ⟨es', n, u, e2, e3, f1, f2⟩, hq S1 d v l1 R1 (f3 _) w1⟩
        | none =>
          rw [hl] at w1
          exact w1.elim
      · exact w1.elim
    · cases hf
  · cases hf

/-! ### f() -/
def eCal0 (sp : Spec) : EvE := fun _ _ μ Q X => sp [] μ Q X
def fCal0 (x : Str) : XF := fun _ sc _ e => match e with
  | .Call (.Name y _) [] [] _ => if x = y ∧ glB sc y = true then some [] else none
  | _ => none
theorem n_cal0 {x : Str} {sp : Spec} (h : FnC B T cls k x sp) : NodOk B T cls k cd (fCal0 x) (eCal0 sp) := by
  intro X top Wx e es as S hf hp
  unfold fCal0 at hf
  split at hf
  · rename_i y p pos
    split at hf
    · rename_i hc
      obtain ⟨rfl, hg⟩ := hc
      cases hf
      have e := hp.none
      subst e
      have hB := S.bs
      subst hB
      obtain ⟨f, fd, ps, sp', dd, dvs, dus, hm, hk, hdb, F, b, hd, hrd, imp⟩ := h
      refine ⟨fun pins s σ H Q I hh => ?_⟩
      refine wpAny_Call_Name_kw (ld_glob I (gl_of hg) hm ?_ hdb)
      refine PySem.W.callWith_K0 I.kIn hk (run_fnSD (us := []) (vs := []) (E := WE Wx) F S.g.room b hd (passAt S.tk σ) I .nil ?_)
      obtain ⟨S0, δ, QM, QX, rfl, R, hE, hw, hq, hx⟩ := hh
      simp only [wpE, wpA] at hw
      exact ⟨S0, dd, QM, QX, rfl, R, hrd _, imp _ _ _ _ hw, hq, hx⟩
    · cases hf
  · cases hf
end
end M
end

section
set_option Elab.async false
set_option linter.all false
set_option maxRecDepth 100000
set_option maxHeartbeats 4000000
set_option autoImplicit false
/-! M: dict displays, get. -/
namespace M
open PySem PySem.Spec PyProof.Rows L2
section
variable {B : Bs} {T : List Addr} {cls : Nat → Addr} {k : Nat} {cd : Prop} {X : Cx} {Wx : WX}
/-- {'..': e, ..}: a new dict -/
def keyB : Option Expr → Str → Bool
  | some (.Constant (.str x) _ _), y => decide (x = y)
  | _, _ => false
theorem keyB_of {k : Option Expr} {y : Str} (h : keyB k y = true) : ∃ j p, k = some (.Constant (.str y) j p) := by
  unfold keyB at h
  split at h
  · rw [decide_eq_true_eq] at h
    subst h
    exact ⟨_, _, rfl⟩
  · cases h
def keysB : List (Option Expr) → List Str → Bool
  | [], [] => true
  | k :: ks, y :: ys => keyB k y && keysB ks ys
  | _, _ => false
theorem keysB_all : ∀ {keys : List (Option Expr)} {ks : List Str}, keysB keys ks = true → keys.all (·.isSome) = true ∧ keys.length = ks.length
  | [], [], _ => ⟨rfl, rfl⟩
  | [], _ :: _, h => by cases (show false = true from h)
  | _ :: _, [], h => by cases (show false = true from h)
  | k :: keys, y :: ks, h => by
    have h : (keyB k y && keysB keys ks) = true := h
    rw [Bool.and_eq_true] at h
    obtain ⟨h1, h2⟩ := keysB_all h.2
    obtain ⟨j, p, rfl⟩ := keyB_of h.1
    exact ⟨by rw [List.all_cons, h1]; rfl, by rw [List.length_cons, List.length_cons, h2]⟩
theorem zip_keys : ∀ (ks : List Str) (vs : List V), (ks.map V.str).zip vs = ((ks.map Sum.inr).zip vs).map (fun kv : Key × V => (kV kv.1, kv.2))
  | [], _ => by simp
  | k :: ks, [] => by simp
  | k :: ks, v :: vs => by
    simp only [List.map_cons, List.zip_cons_cons]
    rw [zip_keys ks vs]
    rfl
def eDsp (ks : List Str) : EvE := fun _ ds μ Q _ => Q (.obj μ.next) (μ.new (.dct ((ks.map Sum.inr).zip ds)))
def fDsp (ks : List Str) : XF := fun _ _ _ e => match e with
  | .Dict keys vals _ => if keysB keys ks = true ∧ ks.Nodup ∧ keys.length = vals.length ∧ keys ≠ [] ∧ keys.length ≤ 15 then some vals else none
  | _ => none
theorem pairs_of {pos : Pos} : ∀ {ks : List Str} {keys : List (Option Expr)} {vals : List Expr} {as : IR}, keysB keys ks = true → keys.length = vals.length → PEs X (wd X T cls) Wx as vals →
    ∃ trs, PPs X pos keys vals trs ∧ ∀ (S : Ss) (δ : Env) (σ : L2.St) (QM : List D → Sto → Prop) (QX : XPost) (Q : List (V × V) → Hp → Prop), Rl (wd X T cls) S → EnvR (wd X T cls) S.vw δ σ → wpA as δ S.μ QM QX →
      (∀ S' ds vs, S.le S' → Rl (wd X T cls) S' → Reps X.K S'.vw ds vs → ds.length = ks.length → QM ds S'.μ → Q ((ks.map V.str).zip vs) S'.H) → AfterX (wd X T cls) S QX (WE Wx σ) → tPairs trs σ S.H Q
  | [], [], vals, as, _, hl, hp => by
    cases vals with
    | cons _ _ => cases hl
    | nil =>
      have e := hp.none
      subst e
      refine ⟨[], pps_nil, fun S δ σ QM QX Q R hE hw hq hx => ?_⟩
      simp only [wpA] at hw
      exact hq S [] [] (.refl _) R rfl rfl hw
  | [], _ :: keys, vals, as, hk, _, _ => by cases (show false = true from hk)
  | y :: ks, [], vals, as, hk, _, _ => by cases (show false = true from hk)
  | y :: ks, key :: keys, vals, as, hk, hl, hp => by
    have hk : (keyB key y && keysB keys ks) = true := hk
    rw [Bool.and_eq_true] at hk
    obtain ⟨j, p, rfl⟩ := keyB_of hk.1
    cases vals with
    | nil => cases hl
    | cons v vals =>
      cases as with
      | cons a r =>
        obtain ⟨_, h3, h4⟩ := hp
        obtain ⟨trs, hpp, hrd⟩ := pairs_of (ks := ks) (keys := keys) (vals := vals) (as := r) (pos := pos) hk.2 (by simpa using hl) h4
        refine ⟨(_, _) :: trs, pps_cons pe_str h3 hpp, fun S δ σ QM QX Q R hE hw hq hx => ?_⟩
        simp only [wpA] at hw
        refine ⟨S, δ, _, QX, rfl, R, hE, hw, fun S1 d1 v1 l1 R1 r1 w1 => ?_, hx⟩
        refine hrd S1 δ σ _ QX _ R1 (hE.mono l1.1) w1 (fun S2 ds vs l2 R2 r2 hlen w2 => ?_) (hx.le l1)
        exact hq S2 (d1 :: ds) (v1 :: vs) (l1.trans l2) R2 ⟨v1, vs, rfl, r1.mono l2.1, r2⟩ (by simp [hlen]) w2
      | nil => cases (show v :: vals = [] from hp)
      | _ => exact (show False from hp).elim
theorem merge_nodup {V' : Type} : ∀ (more acc : List (Key × V)), ((acc ++ more).map (·.1)).Nodup → mergeK acc more = acc ++ more
  | [], acc, _ => by simp [mergeK]
  | (a, b) :: more, acc, h => by
    have hn : (acc.any fun kv => decide (kv.1 = a)) = false := by
      rw [List.any_eq_false]
      intro kv hm z
      rw [decide_eq_true_eq] at z
      rw [List.map_append, List.nodup_append] at h
      exact h.2.2 kv.1 (List.mem_map_of_mem hm) a (by simp) z
    have e : putK acc a b = acc ++ [(a, b)] := by
      unfold putK
      rw [if_neg (by rw [hn]; exact Bool.false_ne_true)]
    show mergeK (putK acc a b) more = _
    rw [e, merge_nodup (V' := V') more (acc ++ [(a, b)]) (by simpa using h)]
    simp
theorem zip_rep {K : PySem.W.Frag} {w : Vw} : ∀ {ks : List Key} {ds : List D} {vs : List V}, Reps K w ds vs → RepP K w (ks.zip ds) (ks.zip vs)
  | [], _, _, _ => by simp; rfl
  | k :: ks, [], vs, h => by
    have h : vs = [] := h
    subst h
    rfl
  | k :: ks, d :: ds, _, ⟨x, r, e, h, t⟩ => by
    rw [e]
    exact ⟨x, _, rfl, h, zip_rep t⟩
theorem n_dsp {ks : List Str} : NodOk B T cls k cd (fDsp ks) (eDsp ks) := by
  intro X top Wx e es as S hf hp
  unfold fDsp at hf
  split at hf
  · rename_i keys vals pos
    split at hf
    · rename_i hc
      obtain ⟨hk, hnd, hl, h0, h15⟩ := hc
      cases hf
      obtain ⟨hall, hkl⟩ := keysB_all hk
      obtain ⟨trs, hpp, hrd⟩ := pairs_of (ks := ks) (pos := pos) hk hl hp
      refine PE.weak (pe_disp hpp hall hl h0 h15) fun σ H Q hh => ?_
      obtain ⟨S0, δ, QM, QX, rfl, R, hE, hw, hq, hx⟩ := hh
      simp only [wpE] at hw
      intro D hD
      have pvD : S0.pv D = none := by
        cases e : S0.pv D with
        | none => rfl
        | some o =>
          have := (R.prv D o e).1
          rw [hD] at this
          cases this
      obtain ⟨lk, Rk⟩ := R.keep (o := .dK []) hD
      refine hrd { S0 with H := upd S0.H D (.dK []), pv := upd S0.pv D (.dK []) } δ σ _ QX _ Rk (hE.mono lk) hw (fun S2 ds vs l2 R2 r2 hlen w2 => ?_) (fun S2 x l2 R2 w2 => ?_)
      · have hpv : S2.pv = upd S0.pv D (.dK []) := l2.2
        have at2 : S2.pv D = some (.dK []) := by rw [hpv]; exact upd_same
        have lv : vs.length = ks.length := by rw [r2.length, hlen]
        have hmr : mergeK [] ((ks.map Sum.inr).zip vs) = (ks.map Sum.inr).zip vs := by
          rw [merge_nodup (V' := Nat)]
          · rfl
          · rw [List.nil_append, List.map_fst_zip (by rw [List.length_map, lv]; exact Nat.le_refl _)]
            exact List.Pairwise.map _ (fun a b h1 h2 => h1 (Sum.inr.inj h2)) hnd
        refine ⟨(R2.prv D _ at2).1, (ks.map Sum.inr).zip vs, ?_, ?_, ?_⟩
        · exact zip_keys ks vs
        · rw [List.length_zip, List.length_map, lv, Nat.min_self]
          rw [← hkl]
          exact h15
        · rw [hmr]
          have hv : ∀ a o, S0.pv a = some o → S2.pv a = some o ∧ a ≠ D := fun a o e => by
            have ha : a ≠ D := fun z => by rw [z, pvD] at e; cases e
            exact ⟨by rw [hpv, upd_ne ha]; exact e, ha⟩
          obtain ⟨l3, R3⟩ := R2.adopt (c := .dct ((ks.map Sum.inr).zip ds)) (pv' := S0.pv) (o := .dK ((ks.map Sum.inr).zip vs)) at2 hv ⟨_, upd_same, RepP.mono (w := S2.vw) (w' := ⟨hid S2, newρ S2.ρ S2.μ.next D, S2.μ.next + 1⟩) ⟨Ext.refl _, fun k hk => newρ_ne (Nat.ne_of_lt hk), Nat.le_succ _⟩ (zip_rep r2)⟩
          exact hq _ (.obj S2.μ.next) (.ref D) ⟨(lk.trans l2.1).trans l3, rfl⟩ R3 ⟨Nat.lt_succ_self _, by show V.ref D = V.ref (newρ S2.ρ S2.μ.next D S2.μ.next); rw [newρ_same]⟩ w2
      · have hpv : S2.pv = upd S0.pv D (.dK []) := l2.2
        obtain ⟨l3, R3⟩ := R2.give (pv' := S0.pv) fun a o e => by
          have ha : a ≠ D := fun z => by rw [z, pvD] at e; cases e
          rw [hpv, upd_ne ha]
          exact e
        exact hx { S2 with pv := S0.pv } x ⟨(lk.trans l2.1).trans l3, rfl⟩ R3 w2
    · cases hf
  · cases hf
/-- d.get(k, e) -/
def spDget : Spec := fun ds μ Q _ => match ds with
  | [d, e, f] => match asK d μ, keyOf e with
    | some kvs, some k => Q ((valD kvs k).getD f) μ
    | _, _ => False
  | [d, e] => match asK d μ, keyOf e with
    | some kvs, some k => Q ((valD kvs k).getD .non) μ
    | _, _ => False
  | _ => False
theorem m_dget : MtC B T cls k "dict" "dict.get" "get" spDget := by
  refine ⟨PySem.F.plainAttrs_dict, PySem.F.slot_dict_get, PySem.F.type_dict_get, fun X hB hc hr => ?_⟩
  intro pins s σ H x xs v us Q I rx rs h
  have hu : X.A.units + 1 < cLine := by have := hr.un; omega
  obtain ⟨S, d, ds, QM, rfl, R, rd, rr, hw, hq⟩ := h
  unfold spDget at hw
  split at hw
  · rename_i d0 e f hds
    cases hds
    split at hw
    · rename_i kvs key e1 e2
      obtain ⟨a, es, rfl, ha, re⟩ := asK_rep R rd e1
      obtain ⟨x1, r2, rfl, q1, q2⟩ := rr
      obtain ⟨x2, rfl, q3⟩ := Reps.inv1 q2
      obtain ⟨u1, u2, rfl, w1, w2⟩ := vals2 rs
      obtain rfl : v = Value.ref a := rx
      have := key_rep e2 q1
      subst this
      refine d_get2 hu I (dget_rd ha) w1 w2 fun w' s' I' rw' => ?_
      have hv := val_rep (k := key) re
      cases hd : valD kvs key with
      | some d' =>
        rw [hd] at hv hw
        obtain ⟨v', ev, rv⟩ := hv
        rw [ev] at rw'
        exact ⟨_, _, I', rw', hq S d' v' (.refl _) R rv hw⟩
      | none =>
        rw [hd] at hv hw
        rw [hv] at rw'
        exact ⟨_, _, I', rw', hq S f x2 (.refl _) R q3 hw⟩
    · exact hw.elim
  · rename_i d0 e hds
    cases hds
    split at hw
    · rename_i kvs key e1 e2
      obtain ⟨a, es, rfl, ha, re⟩ := asK_rep R rd e1
      obtain ⟨x1, rfl, q1⟩ := Reps.inv1 rr
      obtain ⟨u1, rfl, w1⟩ := vals1 rs
      obtain rfl : v = Value.ref a := rx
      have := key_rep e2 q1
      subst this
      refine d_get1 hu I (dget_rd ha) w1 fun w' s' I' rw' => ?_
      have hv := val_rep (k := key) re
      cases hd : valD kvs key with
      | some d' =>
        rw [hd] at hv hw
        obtain ⟨v', ev, rv⟩ := hv
        rw [ev] at rw'
        exact ⟨_, _, I', rw', hq S d' v' (.refl _) R rv hw⟩
      | none =>
        rw [hd] at hv hw
        rw [hv] at rw'
        exact ⟨_, _, I', rw', hq S .non .non (.refl _) R rfl hw⟩
    · exact hw.elim
  · exact hw.elim
end
end M
end

section
set_option Elab.async false
set_option linter.all false
set_option maxRecDepth 100000
set_option maxHeartbeats 4000000
set_option autoImplicit false
/-! M: built-ins. -/
namespace M
open PySem PySem.Spec PyProof.Rows L2
section
variable {B : Bs} {T : List Addr} {cls : Nat → Addr} {k : Nat} {cd : Prop} {X : Cx} {Wx : WX}
theorem c_bi {x : Str} {u : Value} {sp : Spec} (hm : B.mg x = none) (hn : x ≠ "__name__") (hd : (x == ("__debug__" : Str)) = false) (hu : bootBuiltins x = some u) (hk : (∃ id, u = .builtin id) ∨ ∃ id, u = .type id)
    (hi : ∀ ds μ Q E, sp ds μ Q E → sp ds μ Q (fun _ _ => False))
    (h : ∀ X : Cx, Cx.bs X = B → X.calm = true → Room k X.A → ∀ (pins : List (Addr × Obj)) (s : Shared) (σ : L2.St) (S : Ss) (us : List Value) (vs : List V) (ds : List D) (QM : Post) (Q : VK), L2.Inv X pins σ S.H s → Vals vs us → Rl (wd X T cls) S → Reps X.K S.vw ds vs → sp ds S.μ QM (fun _ _ => False) → After (wd X T cls) S QM Q →
      wpAny (model X.prog X.w) X.A (call u us) (EP X pins σ Q) X.xe s) : CalC B T cls k x sp := by
  refine .inr ⟨⟨hm, hn, hd, u, hu, hk, fun X hB hc hr => ?_⟩, hi⟩
  intro pins s σ H vs us Q I r hh
  obtain ⟨S, ds, QM, rfl, R, rr, hw, hq⟩ := hh
  exact h X hB hc hr pins s σ S us vs ds QM Q I r R rr hw hq
/-! len -/
def spLen : Spec := fun ds μ Q _ => match ds with
  | [.str s] => s.length ≤ sizeLine ∧ Q (.int s.length) μ
  | [d] => match asSeq d μ with
    | some xs => Q (.int xs.length) μ
    | none => False
  | _ => False
theorem c_len (hm : B.mg "len" = none) : CalC B T cls k "len" spLen := by
  refine c_bi hm (by decide) (by decide) (show bootBuiltins "len" = some (.builtin "len") by decide +kernel) (.inl ⟨_, rfl⟩) (fun _ _ _ _ h => h) fun X hB hc hr pins s σ S us vs ds QM Q I r R rr hw hq => ?_
  unfold spLen at hw
  split at hw
  · rename_i z
    obtain ⟨x, rfl, q1⟩ := Reps.inv1 rr
    exact call_len_str pins s σ S.H _ us Q I r ⟨z, by rw [show x = _ from q1], hw.1, hq S (.int _) _ (.refl _) R rfl hw.2⟩
  · rename_i d hd
    split at hw
    · rename_i xs e
      obtain ⟨x, rfl, q1⟩ := Reps.inv1 rr
      obtain ⟨a, ys, rfl, g, r2⟩ := asSeq_rep R q1 e
      refine call_len_seq pins s σ S.H _ us Q I r ⟨a, ys, rfl, g, ?_⟩
      rw [r2.length]
      exact hq S (.int _) _ (.refl _) R rfl hw
    · exact hw.elim
  · exact hw.elim
/-! int -/
def spInt : Spec := fun ds μ Q _ => match ds with
  | [.int i] => Q (.int i) μ
  | [.bl b] => Q (.int (if b then 1 else 0)) μ
  | [.str s] => ∃ n, PySem.intText? s = some n ∧ s.length ≤ 640 ∧ Q (.int n) μ
  | _ => False
theorem c_int (hm : B.mg "int" = none) : CalC B T cls k "int" spInt := by
  refine c_bi hm (by decide) (by decide) (show bootBuiltins "int" = some (.type "int") by decide +kernel) (.inr ⟨_, rfl⟩) (fun _ _ _ _ h => h) fun X hB hc hr pins s σ S us vs ds QM Q I r R rr hw hq => ?_
  unfold spInt at hw
  split at hw
  · rename_i z
    obtain ⟨x, rfl, q1⟩ := Reps.inv1 rr
    exact call_int1 pins s σ S.H _ us Q I r (.inl ⟨z, by rw [show x = _ from q1], hq S (.int _) _ (.refl _) R rfl hw⟩)
  · rename_i z
    obtain ⟨x, rfl, q1⟩ := Reps.inv1 rr
    exact call_int1 pins s σ S.H _ us Q I r (.inr ⟨z, by rw [show x = _ from q1], hq S (.int _) _ (.refl _) R rfl hw⟩)
  · rename_i z
    obtain ⟨x, rfl, q1⟩ := Reps.inv1 rr
    obtain ⟨n, h1, h2, h3⟩ := hw
    exact call_int_str pins s σ S.H _ us Q I r ⟨z, n, by rw [show x = _ from q1], h1, h2, hq S (.int _) _ (.refl _) R rfl h3⟩
  · exact hw.elim
/-! str -/
def spStr : Spec := fun ds μ Q _ => match ds with
  | [.int i] => i.natAbs.log2 < 1920 ∧ Q (.str (toString i)) μ
  | [.str s] => Q (.str s) μ
  | _ => False
theorem c_str (hm : B.mg "str" = none) : CalC B T cls k "str" spStr := by
  refine c_bi hm (by decide) (by decide) (show bootBuiltins "str" = some (.type "str") by decide +kernel) (.inr ⟨_, rfl⟩) (fun _ _ _ _ h => h) fun X hB hc hr pins s σ S us vs ds QM Q I r R rr hw hq => ?_
  unfold spStr at hw
  split at hw
  · rename_i z
    obtain ⟨x, rfl, q1⟩ := Reps.inv1 rr
    exact call_str_int pins s σ S.H _ us Q I r ⟨z, by rw [show x = _ from q1], hw.1, hq S (.str _) _ (.refl _) R rfl hw.2⟩
  · rename_i z
    obtain ⟨x, rfl, q1⟩ := Reps.inv1 rr
    exact SkE.call_str_str pins s σ S.H _ us Q I r ⟨z, by rw [show x = _ from q1], hq S (.str _) _ (.refl _) R rfl hw⟩
  · exact hw.elim
/-! isinstance -/
def tyName (d : D) (μ : Sto) : Option String := match d with
  | .non => some "NoneType"
  | .bl _ => some "bool"
  | .int _ => some "int"
  | .str _ => some "str"
  | .tup _ => some "tuple"
  | .lst _ => some "list"
  | .scr _ => some "list"
  | .ty _ => none
  | .obj j => match μ.cell j with
    | some (.lst _) => some "list"
    | some (.dct _) => some "dict"
    | _ => none
def isB (a b : String) : Bool := a == b || (a == "bool" && b == "int")
def tys : List String := ["NoneType", "bool", "int", "str", "tuple", "list", "dict"]
theorem isB_ok : ∀ a ∈ tys, ∀ b ∈ tys, kitB a b = some (isB a b) := by decide +kernel
theorem tyName_mem {d : D} {μ : Sto} {a : String} (h : tyName d μ = some a) : a ∈ tys := by
  unfold tyName at h
  split at h <;> first | (cases h; decide) | skip
  · cases h
  · split at h <;> first | (cases h; decide) | cases h
theorem tyx_of {S : Ss} {d : D} {v : V} {a : String} (R : Rl (wd X T cls) S) (r : Rep X.K S.vw d v) (h : tyName d S.μ = some a) : TyX X.K S.H v (.type a) := by
  have tupl : ∀ {p : Addr} {xs : List V}, SqT X.K S.H p xs → TyX X.K S.H (.ref p) (.type "tuple") := by
    rintro p xs ((e | ⟨o, e⟩) | ⟨o, its, n, e, c, _⟩)
    · exact .base (.tup e)
    · exact .fTuple e
    · exact .kTuple e c
  have lstl : ∀ {p : Addr} {xs : List V}, SqL X.K S.H p xs → TyX X.K S.H (.ref p) (.type "list") := by
    rintro p xs ((e | ⟨o, e⟩) | ⟨o, its, n, e, c, _⟩)
    · exact .base (.lst e)
    · exact .base (.frz e)
    · exact .kList e c
  cases d with
  | non => cases h; rw [show v = _ from r]; exact .base .non
  | bl b => cases h; rw [show v = _ from r]; exact .base (.bl b)
  | int i => cases h; rw [show v = _ from r]; exact .base (.int i)
  | str i => cases h; rw [show v = _ from r]; exact .base (.str i)
  | ty n => cases h
  | tup ds =>
    cases h
    obtain ⟨p, xs, rfl, g, _⟩ := r
    exact tupl (hid_ext.sqt g)
  | lst ds =>
    cases h
    obtain ⟨p, xs, rfl, g, _⟩ := r
    exact .base (.lst (hid_ex g))
  | scr ds =>
    cases h
    obtain ⟨p, xs, rfl, g, _⟩ := r
    exact lstl (hid_ext.sql g)
  | obj j =>
    obtain ⟨_, rfl⟩ := r
    unfold tyName at h
    dsimp only at h
    split at h
    · rename_i c hc
      cases h
      obtain ⟨xs, e1, _⟩ := R.ok _ _ hc
      exact .base (.lst e1)
    · rename_i c hc
      cases h
      obtain ⟨xs, e1, _⟩ := R.ok _ _ hc
      exact .base (.dK e1)
    · cases h
def tysOf : List D → Option (List String)
  | [] => some []
  | .ty n :: r => (tysOf r).map fun ns => n :: ns
  | _ => none
theorem tysOf_ok : ∀ {ts : List D} {ns : List String}, tysOf ts = some ns → ts = ns.map .ty
  | [], ns, h => by cases h; rfl
  | d :: r, ns, h => by
    cases d with
    | ty n =>
      have h : (tysOf r).map (fun ns => n :: ns) = some ns := h
      cases e : tysOf r with
      | none => rw [e] at h; cases h
      | some ms =>
        rw [e] at h
        cases h
        rw [tysOf_ok e]
        rfl
    | _ => cases (show none = some ns from h)
def spIsi : Spec := fun ds μ Q _ => match ds with
  | [d, .ty n] => match tyName d μ with
    | some a => n ∈ tys ∧ Q (.bl (isB a n)) μ
    | none => False
  | [d, .tup ts] => match tyName d μ, tysOf ts with
    | some a, some ns => (ns.all fun n => decide (n ∈ tys)) = true ∧ Q (.bl (ns.any fun n => isB a n)) μ
    | _, _ => False
  | _ => False
theorem kit_all {K : PySem.W.Frag} {a : String} (ha : a ∈ tys) : ∀ {ns : List String}, (∀ n ∈ ns, n ∈ tys) → PySem.W.kitAny K (.type a) (ns.map .type) = some (ns.any fun n => isB a n)
  | [], _ => rfl
  | n :: ns, h => by
    have h1 : PySem.W.kitOne K (.type a) (.type n) = some (isB a n) := kit_ty (isB_ok a ha n (h n List.mem_cons_self))
    refine kitAny_cons h1 (fun hf => ?_) (fun ht => ?_)
    · rw [List.any_cons, hf, Bool.false_or]
      exact kit_all ha fun m hm => h m (List.mem_cons_of_mem _ hm)
    · rw [List.any_cons, ht, Bool.true_or]
theorem reps_tys {K : PySem.W.Frag} {w : Vw} : ∀ {ns : List String} {xs : List V}, Reps K w (ns.map .ty) xs → Paired ClsV xs (ns.map Value.type)
  | [], _, h => by
    have h : _ = [] := h
    subst h
    exact .nil
  | n :: ns, _, ⟨x, r, e, h, t⟩ => by
    have h : x = .ty n := h
    subst e h
    exact .cons (.ty n) (reps_tys t)
theorem c_isi (hm : B.mg "isinstance" = none) : CalC B T cls k "isinstance" spIsi := by
  refine c_bi hm (by decide) (by decide) (show bootBuiltins "isinstance" = some (.builtin "isinstance") by decide +kernel) (.inl ⟨_, rfl⟩) (fun _ _ _ _ h => h) fun X hB hc hr pins s σ S us vs ds QM Q I r R rr hw hq => ?_
  unfold spIsi at hw
  split at hw
  · rename_i d n
    split at hw
    · rename_i a ea
      obtain ⟨x, y, rfl, q1, q2⟩ := Reps.inv2 rr
      have q2 : y = .ty n := q2
      subst q2
      exact call_isi pins s σ S.H _ us Q I r ⟨x, _, _, _, _, rfl, .ty n, tyx_of R q1 ea, kit_ty (isB_ok a (tyName_mem ea) n hw.1), hq S (.bl _) _ (.refl _) R rfl hw.2⟩
    · exact hw.elim
  · rename_i d ts
    split at hw
    · rename_i a ns ea en
      have en := tysOf_ok en
      subst en
      obtain ⟨hn, hw⟩ := hw
      have hn : ∀ n ∈ ns, n ∈ tys := fun n h => of_decide_eq_true (List.all_eq_true.mp hn n h)
      obtain ⟨x, y, rfl, q1, p, xs, rfl, g, q3⟩ := Reps.inv2 rr
      have g := hid_ext.sqt g
      obtain ⟨u1, u2, rfl, r1, r2⟩ := vals2 r
      cases (show u2 = Value.ref p from r2)
      obtain ⟨P, Z, pz, hx⟩ := kit_of I r1 (tyx_of R q1 ea)
      obtain ⟨its, rv, ⟨o, h1, h2, n, h3⟩, _⟩ := I.tuple g
      have e3 := ClsV.all (reps_tys q3) rv
      subst e3
      obtain ⟨oc, od, dt, sl⟩ := o
      simp only at h2 h3
      subst h2 h3
      exact PySem.W.kia_tup Z I.kIn pz h1 (kit_all (tyName_mem ea) hn) hx fun tk => ⟨.bl _, S.H, I.tok tk, rfl, hq S (.bl _) _ (.refl _) R rfl hw⟩
    · exact hw.elim
  · exact hw.elim
/-! max -/
def spMax : Spec := fun ds μ Q _ => match ds with
  | [d] => ∃ ns : List Int, asL d μ = some (ns.map .int) ∧ ns ≠ [] ∧ Q (.int (maxI 0 ns)) μ
  | _ => False
theorem c_max (hm : B.mg "max" = none) : CalC B T cls k "max" spMax := by
  refine c_bi hm (by decide) (by decide) (show bootBuiltins "max" = some (.builtin "max") by decide +kernel) (.inl ⟨_, rfl⟩) (fun _ _ _ _ h => h) fun X hB hc hr pins s σ S us vs ds QM Q I r R rr hw hq => ?_
  unfold spMax at hw
  split at hw
  · rename_i d
    obtain ⟨ns, e1, hne, q⟩ := hw
    obtain ⟨x, rfl, q1⟩ := Reps.inv1 rr
    obtain ⟨a, xs, rfl, hs, r2⟩ := asL_rep R q1 e1
    rw [reps_ints r2] at hs
    refine cr_max hc pins s σ S.H _ us Q I r ⟨a, ns, rfl, hs, List.length_pos_iff.mpr hne, fun m h1 h2 => ?_⟩
    rw [maxI_of (z := 0) (.inr ⟨h1, h2⟩)]
    exact hq S (.int _) _ (.refl _) R rfl q
  · exact hw.elim
/-! tuple, list -/
def spTup : Spec := fun ds μ Q _ => match ds with
  | [d] => match asSeq d μ with
    | some xs => Q (.tup xs) μ
    | none => False
  | _ => False
theorem c_tup (hm : B.mg "tuple" = none) : CalC B T cls k "tuple" spTup := by
  refine c_bi hm (by decide) (by decide) (show bootBuiltins "tuple" = some (.type "tuple") by decide +kernel) (.inr ⟨_, rfl⟩) (fun _ _ _ _ h => h) fun X hB hc hr pins s σ S us vs ds QM Q I r R rr hw hq => ?_
  unfold spTup at hw
  split at hw
  · rename_i d
    split at hw
    · rename_i xs e
      obtain ⟨x, rfl, q1⟩ := Reps.inv1 rr
      unfold asSeq at e
      split at e
      · cases e
        obtain ⟨a, ys, rfl, g, r2⟩ := q1
        exact call_tuple_of pins s σ S.H _ us Q I r ⟨a, ys, rfl, .inr ⟨hid_ext.sqt g, hq S (.tup _) _ (.refl _) R ⟨a, ys, rfl, g, r2⟩ hw⟩⟩
      · obtain ⟨a, ys, rfl, g, r2⟩ := asL_rep R q1 e
        exact call_tuple_of pins s σ S.H _ us Q I r ⟨a, ys, rfl, .inl ⟨g, fresh_tup R r2 hw hq⟩⟩
    · exact hw.elim
  · exact hw.elim
/-- a list that stands for ever -/
def spLst : Spec := fun ds μ Q _ => match ds with
  | [d] => match asSeq d μ with
    | some xs => Q (.lst xs) μ
    | none => False
  | _ => False
/-- a list that is changed -/
def spLstM : Spec := fun ds μ Q _ => match ds with
  | [d] => match asSeq d μ with
    | some xs => Q (.obj μ.next) (μ.new (.lst xs))
    | none => False
  | _ => False
theorem new_lst {S : Ss} {QM : Post} {Q : VK} {ds : List D} {xs : List V} (R : Rl (wd X T cls) S) (r : Reps X.K S.vw ds xs) (hb : QM (.obj S.μ.next) (S.μ.new (.lst ds))) (hq : After (wd X T cls) S QM Q) : ∀ p, S.H p = none → Q (.ref p) (upd S.H p (.lst xs)) := fun p hp => by
  obtain ⟨l, R2⟩ := R.new (c := .lst ds) (H' := upd S.H p (.lst xs)) hp (fun a ha _ => upd_ne ha) (fun a o e => (upd_ne (ne_of_none (hid_ex e) hp)).trans (hid_ex e)) ⟨xs, upd_same, Reps.mono (w := S.vw) (w' := ⟨hid S, newρ S.ρ S.μ.next p, S.μ.next + 1⟩) ⟨Ext.refl _, fun k hk => newρ_ne (Nat.ne_of_lt hk), Nat.le_succ _⟩ r⟩
  exact hq _ (.obj S.μ.next) (.ref p) l R2 ⟨Nat.lt_succ_self _, by show V.ref p = V.ref (newρ S.ρ S.μ.next p S.μ.next); rw [newρ_same]⟩ hb
theorem c_lst (hm : B.mg "list" = none) : CalC B T cls k "list" spLst := by
  refine c_bi hm (by decide) (by decide) (show bootBuiltins "list" = some (.type "list") by decide +kernel) (.inr ⟨_, rfl⟩) (fun _ _ _ _ h => h) fun X hB hc hr pins s σ S us vs ds QM Q I r R rr hw hq => ?_
  unfold spLst at hw
  split at hw
  · rename_i d
    split at hw
    · rename_i xs e
      obtain ⟨x, rfl, q1⟩ := Reps.inv1 rr
      obtain ⟨a, ys, rfl, g, r2⟩ := asSeq_rep R q1 e
      exact call_list_of pins s σ S.H _ us Q I r ⟨a, ys, rfl, g, fresh_lst R r2 hw hq⟩
    · exact hw.elim
  · exact hw.elim
theorem c_lstM (hm : B.mg "list" = none) : CalC B T cls k "list" spLstM := by
  refine c_bi hm (by decide) (by decide) (show bootBuiltins "list" = some (.type "list") by decide +kernel) (.inr ⟨_, rfl⟩) (fun _ _ _ _ h => h) fun X hB hc hr pins s σ S us vs ds QM Q I r R rr hw hq => ?_
  unfold spLstM at hw
  split at hw
  · rename_i d
    split at hw
    · rename_i xs e
      obtain ⟨x, rfl, q1⟩ := Reps.inv1 rr
      obtain ⟨a, ys, rfl, g, r2⟩ := asSeq_rep R q1 e
      exact call_list_of pins s σ S.H _ us Q I r ⟨a, ys, rfl, g, new_lst R r2 hw hq⟩
    · exact hw.elim
  · exact hw.elim
/-! methods -/
theorem m_mk {Ty id : String} {m : Str} {sp : Spec} {X0 : Prop} (pa : PlainAttrs Ty) (sl : Slot Ty m id) (ht : typeOf (.builtin id) = pure (.type "method_descriptor"))
    (h : ∀ X : Cx, Cx.bs X = B → X.calm = true → Room k X.A → ∀ (pins : List (Addr × Obj)) (s : Shared) (σ : L2.St) (S : Ss) (x : V) (v : Value) (us : List Value) (vs : List V) (d : D) (ds : List D) (QM : Post) (Q : VK), L2.Inv X pins σ S.H s → RelV x v → Vals vs us → Rl (wd X T cls) S → Rep X.K S.vw d x → Reps X.K S.vw ds vs → sp (d :: ds) S.μ QM (fun _ _ => False) → After (wd X T cls) S QM Q →
      wpAny (model X.prog X.w) X.A (call (.builtin id) (v :: us)) (EP X pins σ Q) X.xe s) : MtC B T cls k Ty id m sp := by
  refine ⟨pa, sl, ht, fun X hB hc hr => ?_⟩
  intro pins s σ H x vs v us Q I rx r hh
  obtain ⟨S, d, ds, QM, rfl, R, rd, rr, hw, hq⟩ := hh
  exact h X hB hc hr pins s σ S x v us vs d ds QM Q I rx r R rd rr hw hq
/-- sep.join(list of texts) -/
def spJoin : Spec := fun ds μ Q _ => match ds with
  | [.str a, d] => ∃ ys : List Str, asSeq d μ = some (ys.map .str) ∧ (ys.map (·.length)).sum + ys.length * a.length ≤ 16777216 ∧ Q (.str (Txt.join a ys)) μ
  | _ => False
theorem reps_strs {K : PySem.W.Frag} {w : Vw} : ∀ {ns : List Str} {xs : List V}, Reps K w (ns.map .str) xs → xs = ns.map V.str
  | [], _, h => h
  | n :: ns, _, ⟨x, r, e, h, t⟩ => by
    have h : x = .str n := h
    rw [e, h, reps_strs t]
    rfl
theorem m_join : MtC B T cls k "str" "str.join" "join" spJoin := by
  refine m_mk (X0 := True) PySem.F.plainAttrs_str PySem.F.slot_str_join PySem.F.type_str_join fun X hB hc hr pins s σ S x v us vs d ds QM Q I rx r R rd rr hw hq => ?_
  unfold spJoin at hw
  split at hw
  · rename_i a d' hds
    cases hds
    obtain ⟨ys, e, hz, q⟩ := hw
    obtain ⟨y, rfl, q1⟩ := Reps.inv1 rr
    obtain ⟨p, xs, rfl, g, r2⟩ := asSeq_rep R q1 e
    rw [reps_strs r2] at g
    exact mt_join pins s σ S.H x _ v us Q I rx r ⟨a, p, ys, rd, rfl, g, hz, hq S (.str _) _ (.refl _) R rfl q⟩
  · exact hw.elim
/-- s.split(sep) -/
def spSplit : Spec := fun ds μ Q _ => match ds with
  | [.str a, .str b] => (b.length == 0) = false ∧ a.length + 2 ≤ sizeLine ∧ Q (.lst ((Txt.split a b).map .str)) μ
  | _ => False
theorem strs_reps {K : PySem.W.Frag} {w : Vw} : ∀ {ns : List Str}, Reps K w (ns.map .str) (ns.map V.str)
  | [] => rfl
  | n :: ns => ⟨.str n, _, rfl, rfl, strs_reps⟩
theorem m_split : MtC B T cls k "str" "str.split" "split" spSplit := by
  refine m_mk (X0 := True) PySem.F.plainAttrs_str PySem.F.slot_str_split PySem.F.type_str_split fun X hB hc hr pins s σ S x v us vs d ds QM Q I rx r R rd rr hw hq => ?_
  unfold spSplit at hw
  split at hw
  · rename_i a b hds
    cases hds
    obtain ⟨h1, h2, q⟩ := hw
    obtain ⟨y, rfl, q1⟩ := Reps.inv1 rr
    exact mt_split pins s σ S.H x _ v us Q I rx r ⟨a, b, rd, by rw [show y = _ from q1], h1, h2, fresh_lst R strs_reps q hq⟩
  · exact hw.elim
/-- s.find(t, i) -/
def spFind : Spec := fun ds μ Q _ => match ds with
  | [.str a, .str b, .int i] => Q (.int (Txt.find3 a b i)) μ
  | _ => False
theorem m_find : MtC B T cls k "str" "str.find" "find" spFind := by
  refine m_mk (X0 := True) PySem.F.plainAttrs_str PySem.F.slot_str_find PySem.F.type_str_find fun X hB hc hr pins s σ S x v us vs d ds QM Q I rx r R rd rr hw hq => ?_
  unfold spFind at hw
  split at hw
  · rename_i a b i hds
    cases hds
    obtain ⟨y, z, rfl, q1, q2⟩ := Reps.inv2 rr
    exact mt_find3 pins s σ S.H x _ v us Q I rx r ⟨a, b, i, rd, by rw [show y = _ from q1, show z = _ from q2], hq S (.int _) _ (.refl _) R rfl hw⟩
  · exact hw.elim
/-- l.append(x) -/
def spApp : Spec := fun ds μ Q _ => match ds with
  | [.obj j, d] => match μ.cell j with
    | some (.lst xs) => xs.length < sizeLine ∧ Q .non (μ.put j (.lst (xs ++ [d])))
    | _ => False
  | _ => False
theorem m_app : MtC B T cls k "list" "list.append" "append" spApp := by
  refine m_mk (X0 := True) PySem.F.plainAttrs_list PySem.F.slot_list_append PySem.F.type_list_append fun X hB hc hr pins s σ S x v us vs d ds QM Q I rx r R rd rr hw hq => ?_
  unfold spApp at hw
  split at hw
  · rename_i j d' hds
    cases hds
    split at hw
    · rename_i xs e
      obtain ⟨y, rfl, q1⟩ := Reps.inv1 rr
      obtain ⟨_, rfl⟩ := rd
      obtain ⟨ys, e1, r2⟩ := R.ok _ _ e
      obtain ⟨l, R2⟩ := R.put (k := j) (c' := .lst (xs ++ [d'])) (o := .lst (ys ++ [y])) e ⟨_, upd_same, r2.append (Reps.one q1)⟩
      exact mt_append pins s σ S.H _ _ v us Q I rx r ⟨S.ρ j, ys, y, rfl, rfl, e1, by rw [r2.length]; exact hw.1, hq _ .non .non l R2 rfl hw.2⟩
    · exact hw.elim
  · exact hw.elim
end
end M
end

section
set_option Elab.async false
set_option linter.all false
set_option maxRecDepth 100000
set_option maxHeartbeats 4000000
set_option autoImplicit false
/-! M: ord, list.index of texts, a list turned round. -/
namespace M
open PySem PySem.Spec PyProof.Rows L2
section
variable {B : Bs} {T : List Addr} {cls : Nat → Addr} {k : Nat} {cd : Prop} {X : Cx} {Wx : WX}
def spOrd : Spec := fun ds μ Q _ => match ds with
  | [.str x] => x.length = 1 ∧ Q (.int (x.cps.getD 0 0 : Nat)) μ
  | _ => False
theorem c_ord (hm : B.mg "ord" = none) : CalC B T cls k "ord" spOrd := by
  refine c_bi hm (by decide) (by decide) (show bootBuiltins "ord" = some (.builtin "ord") by decide +kernel) (.inl ⟨_, rfl⟩) (fun _ _ _ _ h => h) fun X hB hc hr pins s σ S us vs ds QM Q I r R rr hw hq => ?_
  unfold spOrd at hw
  split at hw
  · rename_i x
    obtain ⟨v, rfl, q1⟩ := Reps.inv1 rr
    exact call_ord pins s σ S.H _ us Q I r ⟨x, by rw [show v = _ from q1], hw.1, hq S (.int _) _ (.refl _) R rfl hw.2⟩
  · exact hw.elim
/-- the first place of a text -/
def firstAt (z : Str) : List Str → Option Nat
  | [] => none
  | y :: ys => if y = z then some 0 else (firstAt z ys).map (· + 1)
theorem firstAt_ok {z : Str} : ∀ {ys : List Str} {j : Nat}, firstAt z ys = some j → ys[j]? = some z ∧ ∀ m, m < j → ys[m]? ≠ some z
  | y :: ys, j, h => by
    unfold firstAt at h
    by_cases e : y = z
    · rw [if_pos e] at h
      cases h
      exact ⟨by rw [e]; rfl, fun m hm => by omega⟩
    · rw [if_neg e] at h
      obtain ⟨i, hi, rfl⟩ := Option.map_eq_some_iff.mp h
      obtain ⟨h1, h2⟩ := firstAt_ok hi
      refine ⟨h1, fun m hm => ?_⟩
      cases m with
      | zero => exact fun z' => e (Option.some.inj z')
      | succ m => exact h2 m (by omega)
def spLidx : Spec := fun ds μ Q _ => match ds with
  | [d, .str z] => ∃ ys j, asL d μ = some (ys.map .str) ∧ firstAt z ys = some j ∧ Q (.int (j : Nat)) μ
  | _ => False
theorem m_lidx : MtC B T cls k "list" "list.index" "index" spLidx := by
  refine m_mk (X0 := True) PySem.F.plainAttrs_list PySem.F.slot_list_index PySem.F.type_list_index fun X hB hc hr pins s σ S x v us vs d ds QM Q I rx r R rd rr hw hq => ?_
  unfold spLidx at hw
  split at hw
  · rename_i d' z hds
    cases hds
    obtain ⟨ys, j, e, hf, q⟩ := hw
    obtain ⟨y, rfl, q1⟩ := Reps.inv1 rr
    have q1 : y = .str z := q1
    subst q1
    obtain ⟨a, xs, rfl, g, r2⟩ := asL_rep R rd e
    rw [reps_strs r2] at g
    obtain ⟨h1, h2⟩ := firstAt_ok hf
    have eqs : ∀ a b : Str, eqV (V.str a) (V.str b) = decide (a = b) := fun a b => by
      unfold eqV
      first | rfl | (rw [Bool.eq_iff_iff]; simp)
    refine mt_index pins s σ S.H _ _ v us Q I rx r ⟨a, ys.map V.str, .str z, j, .str z, rfl, rfl, g, rfl, by rw [List.all_map]; exact List.all_eq_true.mpr fun _ _ => rfl, by rw [List.getElem?_map, h1]; rfl, by rw [eqs]; exact decide_eq_true rfl, fun m z' hm hz => ?_, hq S (.int _) _ (.refl _) R rfl q⟩
    rw [List.getElem?_map] at hz
    obtain ⟨y, hy, rfl⟩ := Option.map_eq_some_iff.mp hz
    rw [eqs]
    exact decide_eq_false fun e => h2 m hm (by rw [hy, e])
  · exact hw.elim
/-- xs[::-1] -/
def eRev : EvE := fun _ ds μ Q _ => match ds with
  | [d] => match asL d μ with
    | some xs => Q (.lst xs.reverse) μ
    | none => False
  | _ => False
def fRev : XF := fun _ _ _ e => match e with
  | .Subscript x (.Slice none none (some (.UnaryOp .USub (.Constant (.int i) _ _) _)) _) _ => if i = 1 then some [x] else none
  | _ => none
theorem Reps.reverse {K : PySem.W.Frag} {w : Vw} : ∀ {ds : List D} {xs : List V}, Reps K w ds xs → Reps K w ds.reverse xs.reverse
  | [], _, h => by rw [show _ = [] from h]; rfl
  | d :: ds, _, ⟨x, r, e, h, t⟩ => by
    subst e
    rw [List.reverse_cons, List.reverse_cons]
    exact (Reps.reverse t).append (Reps.one h)
theorem n_rev : NodOk B T cls k cd fRev eRev := by
  intro X top Wx e es as S hf hp
  unfold fRev at hf
  split at hf
  · rename_i x i k1 p1 p2 p3 pos
    split at hf
    · rename_i hi
      subst hi
      cases hf
      obtain ⟨ci, rfl, _, hx⟩ := hp.one
      refine PE.weak (pe_revL hx) fun σ H Q hh => ?_
      obtain ⟨S0, δ, QM, QX, rfl, R, hE, hw, hq, hxx⟩ := hh
      simp only [wpE, wpA] at hw
      refine ⟨S0, δ, _, QX, rfl, R, hE, hw, fun S1 d1 v1 l1 R1 r1 w1 => ?_, hxx⟩
      dsimp only [eRev] at w1
      split at w1
      · rename_i xs e1
        obtain ⟨a, ys, rfl, g, r2⟩ := asL_rep R1 r1 e1
        exact ⟨a, ys, rfl, g, fresh_lst R1 r2.reverse w1 (hq.le l1)⟩
      · exact w1.elim
    · cases hf
  · cases hf
/-- G.index(e), G a module's tuple of texts -/
def GtC (B : Bs) (g : Str) (ws : List Str) : Prop := ∃ p o its n, B.mg g = some (.ref p) ∧ B.K.lookup p = some o ∧ o.cls = .type "tuple" ∧ o.dict = none ∧ o.data = .seq its n ∧ its.size ≤ sizeLine ∧ Vals (ws.map V.str) its.toList
theorem GtC.glb {g : Str} {ws : List Str} (h : GtC B g ws) : GlC B g (.tup (ws.map .str)) := by
  obtain ⟨p, o, its, n, e1, e2, e3, e4, e5, e6, e7⟩ := h
  exact ⟨.ref p, .ref p, e1, rfl, fun w => ⟨p, ws.map V.str, rfl, .inr ⟨o, its, n, e2, e3, e5, e6, e7⟩, strs_reps⟩⟩
def eGidx (ws : List Str) : EvE := fun _ ds μ Q _ => match ds with
  | [.str z] => match firstAt z ws with
    | some j => Q (.int (j : Nat)) μ
    | none => False
  | _ => False
def fGidx (g : Str) : XF := fun _ sc _ e => match e with
  | .Call (.Attribute (.Name y _) m apos) [e] [] pos => if g = y ∧ m = ("index" : Str) ∧ glB sc y = true ∧ okName y = true ∧ isStar e = false ∧ (apos.endLine == pos.line) = true then some [e] else none
  | _ => none
theorem n_gidx {g : Str} {ws : List Str} (h : GtC B g ws) : NodOk B T cls k cd (fGidx g) (eGidx ws) := by
  intro X top Wx e es as S hf hp
  unfold fGidx at hf
  split at hf
  · rename_i y p1 m apos e1 pos
    split at hf
    · rename_i hc
      obtain ⟨rfl, rfl, hg, hn, hst, hline⟩ := hc
      cases hf
      obtain ⟨ci, rfl, _, hi⟩ := hp.one
      have hB := S.bs
      subst hB
      obtain ⟨p, o, its, n, g1, g2, g3, g4, g5, g6, g7⟩ := h
      refine PE.weak (pe_bm PySem.F.plainAttrs_tuple PySem.F.slot_tuple_index PySem.F.type_tuple_index mt_tup_index (pe_glob (gl_of hg) g1 (v := .ref p) rfl (okN hn).1) (pa_cons hi pa_nil (star_of hst)) (base_of rfl) ?_ hline (star_of hst) (back_of (by rfl))) fun σ H Q hh => ?_
      · rw [backAll_of (by simp [hst])]
        rfl
      · obtain ⟨S0, δ, QM, QX, rfl, R, hE, hw, hq, hx⟩ := hh
        simp only [wpE, wpA] at hw
        refine ⟨.inr (.inl ⟨rfl, o, g2, g3, g4⟩), S0, δ, _, QX, rfl, R, hE, hw, fun S1 d1 v1 l1 R1 r1 w1 => ?_, hx⟩
        dsimp only [eGidx] at w1
        split at w1
        · rename_i z hz
          cases hz
          split at w1
          · rename_i j hj
            obtain ⟨a1, a2⟩ := firstAt_ok hj
            exact ⟨p, ws, z, j, rfl, by rw [show v1 = _ from r1], .inr ⟨o, its, n, g2, g3, g5, g6, g7⟩, a1, a2, hq S1 (.int _) _ l1 R1 rfl w1⟩
          · exact w1.elim
        · exact w1.elim
    · cases hf
  · cases hf
end
end M
end

section
set_option Elab.async false
set_option linter.all false
set_option maxRecDepth 100000
set_option maxHeartbeats 4000000
set_option autoImplicit false
/-! M: objects: fields, classes called. -/
namespace M
open PySem PySem.Spec PyProof.Rows L2
section
variable {B : Bs} {T : List Addr} {cls : Nat → Addr} {k : Nat} {cd : Prop} {X : Cx} {Wx : WX}
/-- a field written -/
def setF (f : Str) (v : D) : List (Str × D) → List (Str × D)
  | [] => [(f, v)]
  | (g, x) :: r => if g = f then (g, v) :: r else (g, x) :: setF f v r
theorem repP_set {K : PySem.W.Frag} {w : Vw} {f : Str} {d : D} {v : V} (r : Rep K w d v) : ∀ {fs : List (Str × D)} {es : List (Str × V)}, RepP K w fs es → RepP K w (setF f d fs) (putF f v es)
  | [], es, h => by
    have e : es = [] := h
    subst e
    exact ⟨v, [], rfl, r, rfl⟩
  | (g, x) :: fs, es, h => by
    obtain ⟨y, t, rfl, h1, h2⟩ := h
    unfold setF putF
    by_cases e : g = f
    · rw [if_pos e, if_pos e]
      exact ⟨v, t, rfl, r, h2⟩
    · rw [if_neg e, if_neg e]
      exact ⟨y, _, rfl, h1, repP_set r h2⟩
theorem repP_length {κ : Type} {K : PySem.W.Frag} {w : Vw} : ∀ {fs : List (κ × D)} {es : List (κ × V)}, RepP K w fs es → es.length = fs.length
  | [], es, h => by
    have e : es = [] := h
    subst e
    rfl
  | (g, d) :: fs, es, h => by
    obtain ⟨x, r, rfl, h1, h2⟩ := h
    rw [List.length_cons, List.length_cons, repP_length h2]
/-- what a field asks of its classes -/
def FdC (B : Bs) (cls : Nat → Addr) (cs : List Nat) (f : Str) : Prop := ∀ c ∈ cs, Cls B.K (cls c) ∧ NoAttr B.K (cls c) f
def fFld (f : Str) : XF := fun _ _ _ e => match e with
  | .Attribute o g _ => if f = g ∧ isCall o = false ∧ isStar o = false then some [o] else none
  | _ => none
/-- the field's value -/
def fldD (cs : List Nat) (f : Str) (d : D) (μ : Sto) : Option D := match insD d μ with
  | some (_, c, fs) => if c ∈ cs then fs.lookup f else none
  | none => none
def eFld (cs : List Nat) (f : Str) : EvE := fun _ ds μ Q _ => match ds with
  | [d] => match fldD cs f d μ with
    | some v => Q v μ
    | none => False
  | _ => False
theorem fldD_eq {cs : List Nat} {f : Str} {d v : D} {μ : Sto} (h : fldD cs f d μ = some v) : ∃ k c fs, d = .obj k ∧ μ.cell k = some (.ins c fs) ∧ c ∈ cs ∧ fs.lookup f = some v := by
  unfold fldD at h
  split at h
  · rename_i j c fs e
    obtain ⟨e1, e2⟩ := insD_eq e
    split at h
    · rename_i hc
      exact ⟨j, c, fs, e1, e2, hc, h⟩
    · cases h
  · cases h
theorem fld_rep {W : Wd} {S : Ss} {cs : List Nat} {f : Str} {d v : D} {x : V} (R : Rl W S) (r : Rep W.K S.vw d x) (h : fldD cs f d S.μ = some v) : ∃ a c dx es u, c ∈ cs ∧ x = .ref a ∧ S.H a = some (.ins (W.cls c) dx es) ∧ es.lookup f = some u ∧ Rep W.K S.vw v u := by
  obtain ⟨j, c, fs, rfl, e2, hc, e4⟩ := fldD_eq h
  obtain ⟨dx, es, e3, r2⟩ := R.ok _ _ e2
  have r3 := repP_lookup (f := f) r2
  rw [e4] at r3
  obtain ⟨u, e5, r5⟩ := r3
  exact ⟨_, c, dx, es, u, hc, r.2, e3, e5, r5⟩
theorem n_fld {cs : List Nat} {f : Str} (h : FdC B cls cs f) : NodOk B T cls k cd (fFld f) (eFld cs f) := by
  intro X top Wx e es as S hf hp
  unfold fFld at hf
  split at hf
  · rename_i o g pos
    split at hf
    · rename_i hc
      obtain ⟨rfl, hno, hst⟩ := hc
      cases hf
      obtain ⟨ci, rfl, _, hi⟩ := hp.one
      have hB := S.bs
      subst hB
      refine PE.weak (pe_fld hi (base_of hno)) fun σ H Q hh => ?_
      obtain ⟨S0, δ, QM, QX, rfl, R, hE, hw, hq, hx⟩ := hh
      simp only [wpE, wpA] at hw
      refine ⟨S0, δ, _, QX, rfl, R, hE, hw, fun S1 d1 v1 l1 R1 r1 w1 => ?_, hx⟩
      dsimp only [eFld] at w1
      split at w1
      · rename_i dv e4
        obtain ⟨a, c, dx, es, u, hc, ex, ei, el, ru⟩ := fld_rep R1 r1 e4
        exact ⟨a, cls c, dx, es, u, ex, ei, (h c hc).1, (h c hc).2, el, hq S1 _ _ l1 R1 ru w1⟩
      · exact w1.elim
    · cases hf
  · cases hf
/-- o.f = e -/
def fSet (f : Str) : SF := fun _ _ st => match st with
  | .Assign [.Attribute o g _] v _ => if f = g ∧ isStar o = false ∧ isStar v = false then some [v, o] else none
  | _ => none
def setD (cs : List Nat) (f : Str) (d v : D) (μ : Sto) : Option Sto := match insD d μ with
  | some (k, c, fs) => if c ∈ cs ∧ fs.length < 1000 then some (μ.put k (.ins c (setF f v fs))) else none
  | none => none
def eSet (cs : List Nat) (f : Str) : EvS := fun δ ds μ O => match ds with
  | [v, d] => match setD cs f d v μ with
    | some μ' => O.nx δ μ'
    | none => False
  | _ => False
theorem setD_eq {cs : List Nat} {f : Str} {d v : D} {μ μ' : Sto} (h : setD cs f d v μ = some μ') : ∃ k c fs, d = .obj k ∧ μ.cell k = some (.ins c fs) ∧ c ∈ cs ∧ fs.length < 1000 ∧ μ' = μ.put k (.ins c (setF f v fs)) := by
  unfold setD at h
  split at h
  · rename_i j c fs e
    obtain ⟨e1, e2⟩ := insD_eq e
    split at h
    · rename_i hc
      cases h
      exact ⟨j, c, fs, e1, e2, hc.1, hc.2, rfl⟩
    · cases h
  · cases h
/-- the store that a write leaves -/
theorem set_rep {W : Wd} {S : Ss} {cs : List Nat} {f : Str} {d v : D} {x y : V} {μ' : Sto} (R : Rl W S) (r : Rep W.K S.vw d x) (ry : Rep W.K S.vw v y) (h : setD cs f d v S.μ = some μ') : ∃ a c dx es, c ∈ cs ∧ x = .ref a ∧ S.H a = some (.ins (W.cls c) dx es) ∧ es.length < 1000 ∧
    Ss.le S { S with μ := μ', H := upd S.H a (.ins (W.cls c) dx (putF f y es)) } ∧ Rl W { S with μ := μ', H := upd S.H a (.ins (W.cls c) dx (putF f y es)) } := by
  obtain ⟨j, c, fs, rfl, e2, hc, hl, rfl⟩ := setD_eq h
  obtain ⟨dx, es, e3, r2⟩ := R.ok _ _ e2
  have := R.put (c' := .ins c (setF f v fs)) (o := .ins (W.cls c) dx (putF f y es)) e2 ⟨dx, _, upd_same, repP_set ry r2⟩
  exact ⟨_, c, dx, es, hc, r.2, e3, by rw [repP_length r2]; exact hl, this.1, this.2⟩
theorem n_set {cs : List Nat} {f : Str} (h : FdC B cls cs f) : SnoOk B T cls k cd (fSet f) (eSet cs f) := by
  intro X Wx st es as S hf hp
  unfold fSet at hf
  split at hf
  · rename_i o g p v pos
    split at hf
    · rename_i hc
      obtain ⟨rfl, hs1, hs2⟩ := hc
      cases hf
      obtain ⟨cv, co, rfl, _, hv, _, ho⟩ := hp.two
      have hB := S.bs
      subst hB
      refine PS.weak (ps_fld ho hv (by cases v <;> rfl)) fun E σ H hh => ?_
      obtain ⟨S0, δ, O, rfl, R, hE, hw, C⟩ := hh
      simp only [wpS, wpA] at hw
      refine ⟨S0, δ, _, _, rfl, R, hE, hw, fun S1 d1 v1 l1 R1 r1 w1 => ?_, C.afx hE⟩
      refine ⟨S1, δ, _, _, rfl, R1, hE.mono l1.1, w1, fun S2 d2 v2 l2 R2 r2 w2 => ?_, (C.le l1).afx (hE.mono l1.1)⟩
      dsimp only [eSet] at w2
      split at w2
      · rename_i μ' e4
        obtain ⟨a, c, dx, es, hc, ex, ei, hl, l3, R3⟩ := set_rep R2 r2 (r1.mono l2.1) e4
        exact ⟨a, cls c, dx, es, ex, ei, (h c hc).1, (h c hc).2, hl, C.nx _ δ σ ((l1.trans l2).trans l3) R3 ((hE.mono (l1.trans l2).1).mono l3.1) w2⟩
      · exact w2.elim
    · cases hf
  · cases hf
/-- o.f += n, o.f -= n: a written whole number -/
def augI (op : Operator) (i j : Int) : Option Int := match op with
  | .Add => some (i + j)
  | .Sub => some (i - j)
  | _ => none
theorem in_aug {X : Cx} {op : Operator} : InOp X op fun x y H Q => ∃ i j n, x = .int i ∧ y = .int j ∧ augI op i j = some n ∧ Q (.int n) H := by
  intro pins s σ H x y u v Q I rx ry hh
  obtain ⟨i, j, n, rfl, rfl, e, q⟩ := hh
  cases op <;> first | (cases e; done) | skip
  · exact in_add pins s σ H _ _ u v Q I rx ry ⟨i, j, rfl, rfl, by cases e; exact q⟩
  · exact in_sub pins s σ H _ _ u v Q I rx ry ⟨i, j, rfl, rfl, by cases e; exact q⟩
def fAug (op : Operator) (f : Str) (n : Int) : SF := fun _ _ st => match st with
  | .AugAssign (.Attribute o g _) p (.Constant (.int m) _ _) _ => if op = p ∧ f = g ∧ n = m ∧ isStar o = false then some [o] else none
  | _ => none
def eAugO (cs : List Nat) (op : Operator) (f : Str) (on : Option Int) : EvS := fun δ ds μ O => match ds, on with
  | [d], some n => match fldD cs f d μ with
    | some (.int i) => match augI op i n with
      | some m => match setD cs f d (.int m) μ with
        | some μ' => O.nx δ μ'
        | none => False
      | none => False
    | _ => False
  | _, _ => False
def eAug (cs : List Nat) (op : Operator) (f : Str) (n : Int) : EvS := eAugO cs op f (some n)
/-- o.f += x, x a local name -/
def fAugV (op : Operator) (f : Str) (i : Nat) : SF := fun N sc st => match st with
  | .AugAssign (.Attribute o g _) p (.Name y _) _ => if op = p ∧ f = g ∧ N[i]? = some y ∧ visB sc y = true ∧ okName y = true ∧ isStar o = false then some [o] else none
  | _ => none
def intAt (i : Nat) (δ : Env) : Option Int := match δ[i]? with
  | some (some (.int n)) => some n
  | _ => none
def eAugV (cs : List Nat) (op : Operator) (f : Str) (i : Nat) : EvS := fun δ => eAugO cs op f (intAt i δ) δ
theorem aug_read {cs : List Nat} {op : Operator} {f : Str} {on : Option Int} {ci : IR} {tv : TE} {E : Ends} {σ : L2.St} {S0 : Ss} {δ : Env} {O : Outs} (h : FdC (Cx.bs X) cls cs f) (R : Rl (wd X T cls) S0) (hE : EnvR (wd X T cls) S0.vw δ σ) (C : ContS (wd X T cls) Wx O E S0)
    (hw : wpE ci δ S0.μ (fun x μ1 => eAugO cs op f on δ [x] μ1 O) (fun x μ' => O.xc x δ μ')) (htv : ∀ n, on = some n → ∀ H Q, Q (.int n) H → tv σ H Q) : sFldAug X.K (DE (wd X T cls) Wx ci) tv (fun x y H Q => ∃ i j n, x = .int i ∧ y = .int j ∧ augI op i j = some n ∧ Q (.int n) H) f E σ S0.H := by
  refine ⟨S0, δ, _, _, rfl, R, hE, hw, fun S1 d1 v1 l1 R1 r1 w1 => ?_, C.afx hE⟩
  dsimp only [eAugO] at w1
  cases on with
  | none => exact w1.elim
  | some n =>
  dsimp only at w1
  split at w1
  · rename_i i e4
    obtain ⟨a, c, dx, es, u, hc, ex, ei, el, ru⟩ := fld_rep R1 r1 e4
    have ru : u = .int i := ru
    subst ru
    split at w1
    · rename_i m em
      split at w1
      · rename_i μ' e5
        obtain ⟨a2, c2, dx2, es2, hc2, ex2, ei2, hl, l3, R3⟩ := set_rep (v := .int m) (y := .int m) R1 r1 (show Rep _ _ (.int m) (.int m) from rfl) e5
        cases ex.symm.trans ex2
        refine ⟨a, cls c, dx, es, _, ex, ei, (h c hc).1, (h c hc).2, el, htv n rfl _ _ ⟨i, n, m, rfl, rfl, em, dx, es, ei, ?_, ?_⟩⟩
        · have e6 := ei.symm.trans ei2
          injection e6 with e6
          injection e6 with h1 h2 h3
          subst h2 h3
          exact hl
        · have e6 := ei.symm.trans ei2
          injection e6 with e6
          injection e6 with h1 h2 h3
          have h1 : cls c = cls c2 := h1
          subst h2 h3
          have C3 := C.nx _ δ σ (l1.trans l3) R3 ((hE.mono l1.1).mono l3.1) w1
          dsimp only [wd] at C3
          rw [← h1] at C3
          exact C3
      · exact w1.elim
    · exact w1.elim
  · exact w1.elim
theorem n_aug {cs : List Nat} {op : Operator} {f : Str} {n : Int} (h : FdC B cls cs f) : SnoOk B T cls k cd (fAug op f n) (eAug cs op f n) := by
  intro X Wx st es as S hf hp
  unfold fAug at hf
  split at hf
  · rename_i o g p op' m j p2 pos
    split at hf
    · rename_i hc
      obtain ⟨rfl, rfl, rfl, hs⟩ := hc
      cases hf
      obtain ⟨co, rfl, _, ho⟩ := hp.one
      have hB := S.bs
      subst hB
      refine PS.weak (ps_fldaug ho pe_int in_aug) fun E σ H hh => ?_
      obtain ⟨S0, δ, O, rfl, R, hE, hw, C⟩ := hh
      simp only [wpS, wpA] at hw
      exact aug_read (on := some _) h R hE C hw fun m2 e _ _ q => by cases e; exact q
    · cases hf
  · cases hf
theorem n_augV {cs : List Nat} {op : Operator} {f : Str} {i : Nat} (h : FdC B cls cs f) : SnoOk B T cls k cd (fAugV op f i) (eAugV cs op f i) := by
  intro X Wx st es as S hf hp
  unfold fAugV at hf
  split at hf
  · rename_i o g p op' y p2 pos
    split at hf
    · rename_i hc
      obtain ⟨rfl, rfl, hN, hv, hn, hs⟩ := hc
      cases hf
      obtain ⟨co, rfl, _, ho⟩ := hp.one
      have hB := S.bs
      subst hB
      refine PS.weak (ps_fldaug ho (pe_var hN (vis_of hv) (okN hn).1 (okN hn).2) in_aug) fun E σ H hh => ?_
      obtain ⟨S0, δ, O, rfl, R, hE, hw, C⟩ := hh
      simp only [wpS, wpA] at hw
      refine aug_read (on := intAt i δ) h R hE C hw fun m e H Q q => ?_
      unfold intAt at e
      split at e
      · rename_i n e2
        have en := Option.some.inj e
        subst en
        obtain ⟨v, ev, rv⟩ := hE.2 i _ e2
        have rv : v = .int n := rv
        subst rv
        exact ⟨_, ev, q⟩
      · cases e
    · cases hf
  · cases hf
end
end M
end

section
set_option Elab.async false
set_option linter.all false
set_option maxRecDepth 100000
set_option maxHeartbeats 4000000
set_option autoImplicit false
/-! M: a class called; dict cells. -/
namespace M
open PySem PySem.Spec PyProof.Rows L2
section
variable {B : Bs} {T : List Addr} {cls : Nat → Addr} {k : Nat} {cd : Prop} {X : Cx} {Wx : WX}
theorem no_pass : Passes (L2.CX X.prog X.w) X (fun _ _ _ => False) := by
  intro pins σ H s e s' I h
  obtain ⟨_, _, _, _, _, _, _, _, _, _, _, _, hE⟩ := h
  exact hE.elim
/-- the class number c, named x, whose __init__ does sp -/
def NwC (B : Bs) (T : List Addr) (cls : Nat → Addr) (k : Nat) (x : Str) (c : Nat) (sp : Spec) : Prop :=
  ∃ (j : Nat) (f : Addr) (fd : FuncData) (ps : List Str) (sp' : Spec) (dd : List D) (dvs : List V) (dus : List Value), j + 1 ≤ k ∧ B.mg x = some (.ref (cls c)) ∧ (x == ("__debug__" : Str)) = false ∧ Mk B.K (cls c) f ∧
    FnOk B.P B.w B.K B.mg B.base (L2.CX B.P B.w) j f fd ps (lift ⟨B.K, T, cls⟩ sp') ∧ Binds B.K fd ps dus ∧ Vals dvs dus ∧ (∀ w, Reps B.K w dd dvs) ∧ ∀ ds μ Q E, sp ds μ Q E → sp' (ds ++ dd) μ Q E
def fNew (x : Str) : XF := fun _ sc _ e => match e with
  | .Call (.Name y _) es [] _ => if x = y ∧ glB sc y = true ∧ (es.all fun e => !isStar e) = true then some es else none
  | _ => none
def eNew (c : Nat) (sp : Spec) : EvE := fun _ ds μ Q _ => sp (.obj μ.next :: ds) (μ.new (.ins c [])) (fun v μ' => v = .non ∧ Q (.obj μ.next) μ') (fun _ _ => False)
theorem new_read {c : Nat} {sp : Spec} {S : Ss} {ds : List D} {vs : List V} {QM : Post} {Q : VK} {x dx : Addr} (R : Rl (wd X T cls) S) (rr : Reps X.K S.vw ds vs) (hw : sp (.obj S.μ.next :: ds) (S.μ.new (.ins c [])) (fun v μ' => v = .non ∧ QM (.obj S.μ.next) μ') (fun _ _ => False)) (hq : After (wd X T cls) S QM Q)
    (nx : S.H x = none) (nd : S.H dx = none) (ne : dx ≠ x) : lift (wd X T cls) sp (.ref x :: vs) (upd (upd S.H dx (.own x)) x (.ins (cls c) dx [])) (fun v H2 => v = .non ∧ Q (.ref x) H2) fun _ _ _ => False := by
  have old : ∀ a o, S.H a = some o → a ≠ x ∧ a ≠ dx := fun a o e => ⟨ne_of_none e nx, ne_of_none e nd⟩
  have keep : ∀ a o, S.H a = some o → upd (upd S.H dx (.own x)) x (.ins (cls c) dx []) a = some o := fun a o e => by
    rw [upd_ne (old a o e).1, upd_ne (old a o e).2]
    exact e
  obtain ⟨l, R2⟩ := R.new (c := .ins c []) (H' := upd (upd S.H dx (.own x)) x (.ins (cls c) dx [])) nx (fun a _ h => by
    cases e : S.H a with
    | none => exact absurd e h
    | some o => exact keep a o e) (fun a o e => keep a o (hid_ex e)) ⟨dx, [], upd_same, rfl⟩
  refine ⟨_, .obj S.μ.next :: ds, _, _, rfl, R2, ⟨.ref x, vs, rfl, ⟨Nat.lt_succ_self _, by show V.ref x = V.ref (newρ S.ρ S.μ.next x S.μ.next); rw [newρ_same]⟩, rr.mono l.1⟩, hw, ?_, afx_no⟩
  rintro S3 d v l3 R3 r3 ⟨e, q⟩
  subst e
  refine ⟨r3, hq S3 (.obj S.μ.next) _ (l.trans l3) R3 ⟨Nat.lt_of_lt_of_le (Nat.lt_succ_self _) l3.1.2.2, ?_⟩ q⟩
  have : S3.ρ S.μ.next = newρ S.ρ S.μ.next x S.μ.next := l3.1.2.1 _ (Nat.lt_succ_self _)
  show V.ref x = V.ref (S3.ρ S.μ.next)
  rw [this, newρ_same]
theorem n_new {x : Str} {c : Nat} {sp : Spec} (h : NwC B T cls k x c sp) : NodOk B T cls k cd (fNew x) (eNew c sp) := by
  intro X top Wx e es as S hf hp
  unfold fNew at hf
  split at hf
  · rename_i y p es' pos
    split at hf
    · rename_i hc
      obtain ⟨rfl, hg, hst⟩ := hc
      cases hf
      have hB := S.bs
      subst hB
      obtain ⟨j, f, fd, ps, sp', dd, dvs, dus, hj, hm, hdb, M, F, hb, hdv, hrd, imp⟩ := h
      have hr : Room (j + 1) X.A := S.g.room.mono hj
      refine ⟨fun pins s σ H Q I hh => ?_⟩
      have fin : ∀ {S1 : Ss} {ds : List D} {vs : List V} {QM : Post} {Q : VK}, Rl (wd X T cls) S1 → Reps X.K S1.vw ds vs → eNew c sp [] ds S1.μ QM (fun _ _ => False) → After (wd X T cls) S1 QM Q →
          ∀ x dx, S1.H x = none → S1.H dx = none → dx ≠ x → lift ⟨X.K, T, cls⟩ sp' (.ref x :: (vs ++ dvs)) (upd (upd S1.H dx (.own x)) x (.ins (cls c) dx [])) (fun v H2 => v = .non ∧ Q (.ref x) H2) fun _ _ _ => False :=
        fun {S1 ds vs QM Q} R1 r1 w1 hq x dx nx nd ne => new_read (sp := sp') (QM := QM) R1 (r1.append (hrd _)) (imp _ _ _ _ w1) hq nx nd ne
      refine wpAny_Call_Name_kw (ld_glob I (gl_of hg) hm ?_ hdb)
      obtain ⟨S0, δ, QM, QX, rfl, R, hE, hw, hq, hx⟩ := hh
      simp only [wpE] at hw
      cases es with
      | nil =>
        have e := hp.none
        subst e
        simp only [wpA] at hw
        exact PySem.W.callWith_K0 I.kIn M.kp (run_make (us := []) (vs := []) M F hr hb hdv no_pass I .nil (fin R (ds := []) rfl hw hq))
      | cons e es =>
        have ha := pa_of _ hp
        have hda : DA (wd X T cls) Wx as σ S0.H fun vs H1 => ∀ x dx, H1 x = none → H1 dx = none → dx ≠ x → lift ⟨X.K, T, cls⟩ sp' (.ref x :: (vs ++ dvs)) (upd (upd H1 dx (.own x)) x (.ins (cls c) dx [])) (fun v H2 => v = .non ∧ Q (.ref x) H2) fun _ _ _ => False :=
          ⟨S0, δ, _, QX, rfl, R, hE, hw, fun S1 ds vs l1 R1 r1 w1 => fin R1 r1 w1 (hq.le l1), hx⟩
        rw [List.all_cons, Bool.and_eq_true, Bool.not_eq_true'] at hst
        refine PySem.W.callWith_K (h₀ := X.base) I.ok.mod.kin M.kp (thn (ha.run pos pins s σ S0.H _ I hda) fun us s1 ⟨vs, H1, I1, r, q⟩ => ⟨I1.kIn, ?_⟩) (star_of hst.1) (back_of hst.2)
        exact run_make M F hr hb hdv no_pass I1 r q
    · cases hf
  · cases hf
/-! ### dicts -/
def spDpop : Spec := fun ds μ Q _ => match ds with
  | [.obj j, e, f] => match μ.cell j, keyOf e with
    | some (.dct kvs), some k => match valD kvs k with
      | some d => Q d (μ.put j (.dct (dropD kvs k)))
      | none => Q f μ
    | _, _ => False
  | [.obj j, e] => match μ.cell j, keyOf e with
    | some (.dct kvs), some k => match valD kvs k with
      | some d => Q d (μ.put j (.dct (dropD kvs k)))
      | none => False
    | _, _ => False
  | _ => False
theorem m_dpop : MtC B T cls k "dict" "dict.pop" "pop" spDpop := by
  refine m_mk (X0 := True) PySem.F.plainAttrs_dict PySem.F.slot_dict_pop PySem.F.type_dict_pop fun X hB hc hr pins s σ S x v us vs d ds QM Q I rx r R rd rr hw hq => ?_
  have core : ∀ {j : Nat} {kvs : List (Key × D)} {e d : D} {key : Key} {y : V} {u : Value} {more : List Value}, Rep X.K S.vw (.obj j) x → S.μ.cell j = some (.dct kvs) → keyOf e = some key → Rep X.K S.vw e y → RelV y u → valD kvs key = some d → (more = [] ∨ ∃ z, more = [z]) → QM d (S.μ.put j (.dct (dropD kvs key))) →
      wpAny (model X.prog X.w) X.A (call (.builtin "dict.pop") (v :: u :: more)) (EP X pins σ Q) X.xe s := fun {j kvs e d key y u more} rx1 hc e2 ry ru hv hm q => by
    obtain ⟨es, e1, re⟩ := R.ok _ _ hc
    have ex : x = .ref (S.ρ j) := rx1.2
    subst ex
    obtain rfl : v = Value.ref (S.ρ j) := rx
    have := key_rep e2 ry
    subst this
    have hv2 := val_rep (k := key) re
    rw [hv] at hv2
    obtain ⟨v', ev, rv⟩ := hv2
    refine d_pop I e1 ru ev hm fun w' s' I' rw' => ⟨v', _, I', rw', ?_⟩
    obtain ⟨l2, R2⟩ := R.put (c' := .dct (dropD kvs key)) (o := .dK (dropK es key)) hc ⟨_, upd_same, RepP.drop re⟩
    exact hq _ d v' l2 R2 (rv.mono l2.1) q
  unfold spDpop at hw
  split at hw
  · rename_i j e f hds
    cases hds
    obtain ⟨x1, r2, rfl, q1, q2⟩ := rr
    obtain ⟨x2, rfl, q3⟩ := Reps.inv1 q2
    obtain ⟨u1, u2, rfl, w1, w2⟩ := vals2 r
    split at hw
    · rename_i kvs key e1 e2
      split at hw
      · rename_i d e3
        exact core rd e1 e2 q1 w1 e3 (.inr ⟨_, rfl⟩) hw
      · rename_i e3
        obtain ⟨es, e4, re⟩ := R.ok _ _ e1
        have ex : x = .ref (S.ρ j) := rd.2
        subst ex
        obtain rfl : v = Value.ref (S.ρ j) := rx
        have := key_rep e2 q1
        subst this
        have hv2 := val_rep (k := key) re
        rw [e3] at hv2
        exact d_popD I e4 w1 hv2 fun s' I' => ⟨x2, _, I', w2, hq S f x2 (.refl _) R q3 hw⟩
    · exact hw.elim
  · rename_i j e hds
    cases hds
    obtain ⟨x1, rfl, q1⟩ := Reps.inv1 rr
    obtain ⟨u1, rfl, w1⟩ := vals1 r
    split at hw
    · rename_i kvs key e1 e2
      split at hw
      · rename_i d e3
        exact core rd e1 e2 q1 w1 e3 (.inl rfl) hw
      · exact hw.elim
    · exact hw.elim
  · exact hw.elim
/-- dict(d): a new dict -/
def spDct : Spec := fun ds μ Q _ => match ds with
  | [d] => match asKM d μ with
    | some kvs => Q (.obj μ.next) (μ.new (.dct kvs))
    | none => False
  | _ => False
theorem asKM_eq {d : D} {μ : Sto} {kvs : List (Key × D)} (h : asKM d μ = some kvs) : ∃ j, d = .obj j ∧ μ.cell j = some (.dct kvs) := by
  unfold asKM at h
  split at h
  · rename_i j
    split at h
    · rename_i c hc
      cases h
      exact ⟨j, rfl, hc⟩
    · cases h
  · cases h
theorem new_dct {S : Ss} {QM : Post} {Q : VK} {kvs : List (Key × D)} {es : List (Key × V)} (R : Rl (wd X T cls) S) (r : RepP X.K S.vw kvs es) (hb : QM (.obj S.μ.next) (S.μ.new (.dct kvs))) (hq : After (wd X T cls) S QM Q) : ∀ p, S.H p = none → Q (.ref p) (upd S.H p (.dK es)) := fun p hp => by
  obtain ⟨l, R2⟩ := R.new (c := .dct kvs) (H' := upd S.H p (.dK es)) hp (fun a ha _ => upd_ne ha) (fun a o e => (upd_ne (ne_of_none (hid_ex e) hp)).trans (hid_ex e)) ⟨es, upd_same, RepP.mono (w := S.vw) (w' := ⟨hid S, newρ S.ρ S.μ.next p, S.μ.next + 1⟩) ⟨Ext.refl _, fun k hk => newρ_ne (Nat.ne_of_lt hk), Nat.le_succ _⟩ r⟩
  exact hq _ (.obj S.μ.next) (.ref p) l R2 ⟨Nat.lt_succ_self _, by show V.ref p = V.ref (newρ S.ρ S.μ.next p S.μ.next); rw [newρ_same]⟩ hb
theorem c_dct (hm : B.mg "dict" = none) : CalC B T cls k "dict" spDct := by
  refine c_bi hm (by decide) (by decide) (show bootBuiltins "dict" = some (.type "dict") by decide +kernel) (.inr ⟨_, rfl⟩) (fun _ _ _ _ h => h) fun X hB hc hr pins s σ S us vs ds QM Q I r R rr hw hq => ?_
  unfold spDct at hw
  split at hw
  · rename_i d
    split at hw
    · rename_i kvs e
      obtain ⟨x, rfl, q1⟩ := Reps.inv1 rr
      obtain ⟨j, rfl, hc2⟩ := asKM_eq e
      obtain ⟨es, e1, re⟩ := R.ok _ _ hc2
      exact call_dictD pins s σ S.H _ us Q I r ⟨_, es, by rw [show x = V.ref (S.ρ j) from q1.2], .inl e1, new_dct R re hw hq⟩
    · exact hw.elim
  · exact hw.elim
/-- {} -/
def fDnil : XF := fun _ _ _ e => match e with
  | .Dict [] [] _ => some []
  | _ => none
def eDnil : EvE := fun _ _ μ Q _ => Q (.obj μ.next) (μ.new (.dct []))
theorem n_dnil : NodOk B T cls k cd fDnil eDnil := by
  intro X top Wx e es as S hf hp
  unfold fDnil at hf
  split at hf
  · cases hf
    have e := hp.none
    subst e
    refine PE.weak pe_dnewK fun σ H Q hh => ?_
    obtain ⟨S0, δ, QM, QX, rfl, R, hE, hw, hq, hx⟩ := hh
    simp only [wpE, wpA] at hw
    exact new_dct R (kvs := []) (es := []) rfl hw hq
  · cases hf
/-- for k in d -/
def fKeys : XF := fun _ _ _ e => if isStar e = false then some [e] else none
theorem iter_keys' {W : Wd} {k : Nat} {kvs : List (Key × D)} {o : Obj} {es : List (Key × V)} {S0 : Ss} (hk : k < S0.μ.next) : IterD W (Itk (S0.ρ k) o es) (kvs.map fun kv => match kv.1 with | .inl i => .int i | .inr s => .str s) (fun μ' => μ'.cell k = some (.lck kvs o es)) S0 := fun S l R g => by
  obtain ⟨e1, r⟩ := R.ok _ _ g
  have eρ : S.ρ k = S0.ρ k := l.2.1 k hk
  rw [eρ] at e1
  rw [List.length_map]
  have hl : es.length = kvs.length := r.len
  refine ⟨⟨e1, Nat.le_of_eq hl⟩, fun i hi => ⟨⟨e1, by rw [hl]; exact hi⟩, fun x H' y => ?_⟩⟩
  obtain ⟨rfl, key, v, hkv, rfl⟩ := y
  obtain ⟨d, hd, rd⟩ := repP_get r hkv
  exact ⟨S, keyD key, .refl _, R, rfl, rfl, by rw [List.getElem?_map, hd]; cases key <;> rfl, keyD_rep key⟩
theorem n_keys : IndOk B T cls k cd fKeys eKeys := by
  intro X top Wx tg e es as S hf hp
  unfold fKeys at hf
  split at hf
  · cases hf
    obtain ⟨ci, rfl, _, hi⟩ := hp.one
    refine PI.weak (pi_keys hi) fun σ H KR h => ?_
    obtain ⟨S0, δ, KI, QX, rfl, R, hE, hw, hq, hx⟩ := h
    simp only [wpI, wpA] at hw
    refine ⟨S0, δ, _, QX, rfl, R, hE, hw, fun S1 d1 v1 l1 R1 r1 w1 => ?_, hx⟩
    dsimp only [eKeys] at w1
    split at w1
    · rename_i j hj
      cases hj
      split at w1
      · rename_i kvs o es e
        obtain ⟨e1, r⟩ := R1.ok _ _ e
        exact ⟨S1.ρ j, o, by rw [show v1 = _ from r1.2]; rfl, .inl ⟨es, e1, hq S1 _ _ _ l1 R1 (iter_keys' (R1.lt _ _ e)) w1⟩⟩
      · exact w1.elim
    · exact w1.elim
  · cases hf
/-! ### a, b = x, y -/
theorem pa_two {a b : Expr} {ca cb : IR} (h1 : isStar a = false) (h2 : isStar b = false) (ha : PE X a (DE (wd X T cls) Wx ca)) (hb : PE X b (DE (wd X T cls) Wx cb)) : PA X [a, b] (DA (wd X T cls) Wx (.cons ca (.cons cb .nil))) :=
  pa_of (.cons ca (.cons cb .nil)) ⟨h1, ha, h2, hb, rfl⟩
/-- both are plain local names: stored one by one -/
def fPar (i j : Nat) : SF := fun N sc st => match st with
  | .Assign [.Tuple [.Name x px, .Name y py] _ _] (.Tuple [a, b] _ _) _ => if N[i]? = some x ∧ N[j]? = some y ∧ i ≠ j ∧ x ≠ y ∧ sc.names.lookup x = some .local ∧ sc.names.lookup y = some .local ∧ px.line = py.line ∧ isStar a = false ∧ isStar b = false ∧ ([a, b].all (foldedForSure 8)) = false ∧ ([a, b].all (constantsAlone 8)) = false then some [a, b] else none
  | _ => none
def ePar (i j : Nat) : EvS := fun δ ds μ O => match ds with
  | [a, b] => O.nx ((δ.set i (some a)).set j (some b)) μ
  | _ => False
theorem n_par {i j : Nat} : SnoOk B T cls k cd (fPar i j) (ePar i j) := by
  intro X Wx st es as S hf hp
  unfold fPar at hf
  split at hf
  · rename_i x px y py k1 p1 a b k2 p2 pos
    split at hf
    · rename_i hc
      obtain ⟨h1, h2, h3, h4, h5, h6, h7, h8, h9, h10, h11⟩ := hc
      cases hf
      obtain ⟨ca, cb, rfl, _, ha, _, hb⟩ := hp.two
      have hk := S.kind rfl
      have hbk : X.env.blockKind = .function := by
        unfold PySem.Env.blockKind
        rw [hk]
        rfl
      refine PS.weak (ps_par S.g.calm S.g.nd h1 h2 h3 h5 h6 (pa_two h8 h9 ha hb) ?_) fun E σ H hh => ?_
      · unfold swappedStores
        simp only [hbk, h10, h11, PySem.Env.kindOf, h5, h6]
        have e1 : (ScopeKind.function != ScopeKind.function) = false := rfl
        have e2 : ([Expr.Name x px, Expr.Name y py].head?.map (·.pos.line)).getD 0 = py.line := by
          show (Expr.Name x px).pos.line = _
          exact h7
        have e3 : ((y == x) = false) := beq_eq_false_iff_ne.mpr fun z => h4 z.symm
        rw [if_neg (by rw [e1]; exact Bool.false_ne_true), if_neg ?_]
        · simp only [e2]
          simp [h5, h6, h7, h4, List.eraseDups_cons, e3]
        · cases a <;> first | (cases (show true = false from h8); done) | skip
          all_goals (cases b <;> first | (cases (show true = false from h9); done) | exact Bool.false_ne_true)
      · obtain ⟨S0, δ, O, rfl, R, hE, hw, C⟩ := hh
        simp only [wpS] at hw
        refine ⟨S0, δ, _, _, rfl, R, hE, hw, fun S1 ds vs l1 R1 r1 w1 => ?_, C.afx hE⟩
        dsimp only [ePar] at w1
        split at w1
        · rename_i da db
          obtain ⟨v, r2, rfl, q1, q2⟩ := r1
          obtain ⟨w, rfl, q3⟩ := Reps.inv1 q2
          exact ⟨v, w, rfl, C.nx S1 _ _ l1 R1 (((hE.mono l1.1).set q1).set q3) w1⟩
        · exact w1.elim
    · cases hf
  · cases hf
end
end M
end

section
set_option Elab.async false
set_option linter.all false
set_option maxRecDepth 100000
set_option maxHeartbeats 4000000
set_option autoImplicit false
/-! texts by their code points; what the proofs of the defs share. -/
namespace M
open PySem PySem.Spec PyProof.Rows L2
open SX (S S_len S_cat)
theorem fin_same {μ : Sto} {Q : Post} {d : D} (hw : μ.wf) (ho : objB μ.next d = true) (h : Q d μ) : finP μ.next Q d μ :=
  ⟨μ, Nat.le_refl _, ⟨Nat.le_refl _, fun j c e => ⟨e, hw j c e⟩⟩, ho, h⟩
theorem part_self {μ : Sto} (hw : μ.wf) : μ.Part μ := ⟨Nat.le_refl _, fun j c e => ⟨e, hw j c e⟩⟩
theorem part_new {μ μ' : Sto} {c : Cell} (h : μ.Part μ') (hw : ∀ j d, μ.cell j = some d → j < μ'.next) : μ.Part (μ'.new c) :=
  ⟨Nat.le_succ_of_le h.nx, fun j d e => ⟨by rw [Sto.new_ne (Nat.ne_of_lt (hw j d e))]; exact (h.sub j d e).1, (h.sub j d e).2⟩⟩
theorem fin_part {μ μ' : Sto} {Q : Post} {d : D} (hp : μ.Part μ') (ho : objB μ.next d = true) (h : Q d μ) : finP μ.next Q d μ' := ⟨μ, Nat.le_refl _, hp, ho, h⟩
theorem of_S (x : Str) : ∃ l, x = S l := ⟨x.cps.toList, (SX.S_tl x).symm⟩
theorem S_eq {a b : List Nat} : S a = S b ↔ a = b := ⟨SX.S_inj, fun h => by rw [h]⟩
theorem S_cps (l : List Nat) : (S l).cps.toList = l := rfl
theorem deq_S (a b : List Nat) : deq (.str (S a)) (.str (S b)) = decide (a = b) := by
  unfold deq pyOf PyData.eqv
  first | exact SX.S_beq_eq | (simp only [SX.S_beq_eq])
theorem eqOk_str (x : Str) : eqOk (.str x) = true := rfl
theorem eqOk_int (x : Int) : eqOk (.int x) = true := rfl
theorem eqOk_non : eqOk .non = true := rfl
theorem deq_int (a b : Int) : deq (.int a) (.int b) = decide (a = b) := by
  unfold deq pyOf PyData.eqv
  rw [Bool.eq_iff_iff]
  simp
theorem cut_01 {α : Type} (l : List α) : cutD l none (some 1) = l.take 1 := by
  unfold cutD
  rw [show HT.sIx l.length 0 none = 0 from rfl, show HT.sIx l.length l.length (some 1) = min 1 l.length from HT.sIx_nat l.length l.length 1]
  rw [List.drop_zero, Nat.sub_zero]
  cases l <;> simp
theorem cut_1 {α : Type} (l : List α) : cutD l (some 1) none = l.drop 1 := by
  unfold cutD
  rw [show HT.sIx l.length 0 (some 1) = min 1 l.length from HT.sIx_nat l.length 0 1, show HT.sIx l.length l.length none = l.length from rfl]
  cases l <;> simp
theorem cut_from {α : Type} (l : List α) (n : Nat) : cutD l (some (n : Int)) none = l.drop n := by
  unfold cutD
  rw [show HT.sIx l.length 0 (some (n : Int)) = min n l.length from HT.sIx_nat l.length 0 n, show HT.sIx l.length l.length none = l.length from rfl]
  by_cases h : n ≤ l.length
  · rw [Nat.min_eq_left h, List.take_of_length_le (by rw [List.length_drop]; omega)]
  · rw [Nat.min_eq_right (by omega), List.drop_of_length_le (Nat.le_refl _), List.drop_of_length_le (by omega), List.take_nil]
theorem cut_to {α : Type} (l : List α) (n : Nat) : cutD l none (some (n : Int)) = l.take n := by
  unfold cutD
  rw [show HT.sIx l.length 0 none = 0 from rfl, show HT.sIx l.length l.length (some (n : Int)) = min n l.length from HT.sIx_nat l.length l.length n]
  rw [List.drop_zero, Nat.sub_zero]
  by_cases h : n ≤ l.length
  · rw [Nat.min_eq_left h]
  · rw [Nat.min_eq_right (by omega), List.take_of_length_le (Nat.le_refl _), List.take_of_length_le (by omega)]
theorem cut_mid {α : Type} (l : List α) (m n : Nat) : cutD l (some (m : Int)) (some (n : Int)) = (l.take n).drop m := by
  unfold cutD
  rw [show HT.sIx l.length 0 (some (m : Int)) = min m l.length from HT.sIx_nat l.length 0 m, show HT.sIx l.length l.length (some (n : Int)) = min n l.length from HT.sIx_nat l.length l.length n]
  rw [List.drop_take]
  have e1 : List.drop (min m l.length) l = List.drop m l := by
    by_cases hm : m ≤ l.length
    · rw [Nat.min_eq_left hm]
    · rw [Nat.min_eq_right (show l.length ≤ m by omega), List.drop_of_length_le (Nat.le_refl _), List.drop_of_length_le (show l.length ≤ m by omega)]
  rw [e1]
  by_cases h : n - m ≤ l.length - m
  · congr 1
    omega
  · rw [List.take_of_length_le (show (List.drop m l).length ≤ min n l.length - min m l.length by rw [List.length_drop]; omega), List.take_of_length_le (show (List.drop m l).length ≤ n - m by rw [List.length_drop]; omega)]
/-- without the first and the last -/
theorem cut_in {α : Type} (l : List α) : cutD l (some 1) (some (-1)) = (l.drop 1).dropLast := by
  unfold cutD
  rw [show HT.sIx l.length 0 (some 1) = min 1 l.length from HT.sIx_nat l.length 0 1, show HT.sIx l.length l.length (some (-1)) = (-1 + (l.length : Int)).toNat from rfl]
  cases l with
  | nil => rfl
  | cons x r =>
    rw [List.length_cons, show min 1 (r.length + 1) = 1 by omega, show (-1 + ((r.length + 1 : Nat) : Int)).toNat = r.length by omega]
    rw [List.drop_one, List.tail_cons, List.dropLast_eq_take]
theorem atI_zero {α : Type} (x : α) (l : List α) : atI (x :: l) 0 = some x := by
  unfold atI ixN
  simp
theorem atI_nat' {α : Type} (l : List α) (n : Nat) : atI l (n : Int) = l[n]? := by
  unfold atI ixN
  rw [if_pos (by omega)]
  by_cases h : n < l.length
  · rw [if_pos (by omega)]
    rfl
  · rw [if_neg (by omega), List.getElem?_eq_none (by omega)]
    rfl
theorem atI_neg1 {α : Type} (l : List α) : atI l (-1) = l.getLast? := by
  unfold atI ixN
  rw [if_neg (by omega)]
  cases l with
  | nil => rfl
  | cons x r =>
    rw [if_pos (by rw [List.length_cons]; omega), List.getLast?_eq_getElem?]
    show (x :: r)[(-1 + ((x :: r).length : Int)).toNat]? = _
    congr 1
    rw [List.length_cons]
    omega
theorem strIn_one (c : Nat) (l : List Nat) : strIn (S [c]) (S l) = decide (c ∈ l) := rfl
theorem mem_cps (c : Nat) (l : List Nat) : (c ∈ (S l).cps) = (c ∈ l) := by simp
section
variable {μ : Sto} {x : Str} {i : Int} {b : Bool} {ds : List D} {k : Nat} {n : String}
theorem tn_str : tyName (.str x) μ = some "str" := rfl
theorem tn_int : tyName (.int i) μ = some "int" := rfl
theorem tn_bl : tyName (.bl b) μ = some "bool" := rfl
theorem tn_non : tyName .non μ = some "NoneType" := rfl
theorem tn_tup : tyName (.tup ds) μ = some "tuple" := rfl
theorem tn_lst : tyName (.lst ds) μ = some "list" := rfl
theorem tn_scr : tyName (.scr ds) μ = some "list" := rfl
theorem sq_tup : asSeq (.tup ds) μ = some ds := rfl
theorem sq_lst : asSeq (.lst ds) μ = some ds := rfl
theorem sq_scr : asSeq (.scr ds) μ = some ds := rfl
theorem sq_obj (h : μ.cell k = some (.lst ds)) : asSeq (.obj k) μ = some ds := by simp [asSeq, asL, h]
theorem sq_str : asSeq (.str x) μ = none := rfl
theorem sq_int : asSeq (.int i) μ = none := rfl
theorem sq_non : asSeq .non μ = none := rfl
theorem l_lst : asL (.lst ds) μ = some ds := rfl
theorem l_scr : asL (.scr ds) μ = some ds := rfl
theorem l_obj (h : μ.cell k = some (.lst ds)) : asL (.obj k) μ = some ds := by simp [asL, h]
theorem l_tup : asL (.tup ds) μ = none := rfl
theorem lm_lst : asLM (.lst ds) μ = some ds := rfl
theorem lm_obj (h : μ.cell k = some (.lst ds)) : asLM (.obj k) μ = some ds := by simp [asLM, h]
theorem lm_str : asLM (.str x) μ = none := rfl
theorem lm_int : asLM (.int i) μ = none := rfl
theorem lm_tup : asLM (.tup ds) μ = none := rfl
theorem lm_non : asLM .non μ = none := rfl
theorem lm_bl : asLM (.bl b) μ = none := rfl
theorem td_str : tyD n (.str x) μ = (n == "str") := rfl
theorem td_lst : tyD n (.lst ds) μ = (n == "list") := rfl
theorem td_obj (h : μ.cell k = some (.lst ds)) : tyD n (.obj k) μ = (n == "list") := by simp [tyD, h]
theorem td_dct {kvs : List (Key × D)} (h : μ.cell k = some (.dct kvs)) : tyD n (.obj k) μ = (n == "dict") := by simp [tyD, h]
end
theorem itD_of {d : D} {μ : Sto} {xs : List D} {K : IPost} (h : asSeq d μ = some xs) (hk : ∀ gd : Sto → Prop, gd μ → K xs gd μ) : itD d μ K := by
  unfold asSeq at h
  split at h
  · cases h; exact hk _ trivial
  · unfold asL at h
    split at h
    · cases h; exact hk _ trivial
    · cases h; exact hk _ trivial
    · rename_i k
      split at h
      · rename_i c hc
        cases h
        unfold itD
        simp only [hc]
        exact hk _ hc
      · cases h
    · cases h
/-- a comprehension that changes nothing -/
theorem loopC_pure {turn : D → Sto → (Option D → Sto → Prop) → Prop} {gd : Sto → Prop} {fin : List D → Sto → Prop} (f : D → Option D) {μ : Sto} (hg : gd μ) : ∀ {xs acc : List D}, (∀ x ∈ xs, ∀ N : Option D → Sto → Prop, N (f x) μ → turn x μ N) → acc.length + xs.length ≤ sizeLine → fin (acc ++ xs.filterMap f) μ → loopC turn gd fin xs acc μ
  | [], acc, _, _, hf => ⟨hg, by simpa using hf⟩
  | x :: r, acc, h, hl, hf => by
    rw [List.length_cons] at hl
    refine ⟨hg, h x List.mem_cons_self _ ?_⟩
    rw [List.filterMap_cons] at hf
    cases e : f x with
    | none =>
      rw [e] at hf
      exact loopC_pure f hg (fun y hy => h y (List.mem_cons_of_mem _ hy)) (by omega) hf
    | some y =>
      rw [e] at hf
      exact ⟨by omega, loopC_pure f hg (fun y hy => h y (List.mem_cons_of_mem _ hy)) (by rw [List.length_append, List.length_singleton]; omega) (by simpa using hf)⟩
/-- .. and takes every item -/
theorem loopC_map {turn : D → Sto → (Option D → Sto → Prop) → Prop} {gd : Sto → Prop} {fin : List D → Sto → Prop} (f : D → D) {μ : Sto} (hg : gd μ) {xs : List D} (h : ∀ x ∈ xs, ∀ N : Option D → Sto → Prop, N (some (f x)) μ → turn x μ N) (hl : xs.length ≤ sizeLine) (hf : fin (xs.map f) μ) : loopC turn gd fin xs [] μ :=
  loopC_pure (fun x => some (f x)) hg h (by simpa using hl) (by rw [List.nil_append, List.filterMap_eq_map']; exact hf)
theorem deq_str (x y : Str) : deq (.str x) (.str y) = decide (x = y) := by
  obtain ⟨a, rfl⟩ := of_S x
  obtain ⟨b, rfl⟩ := of_S y
  rw [deq_S, Bool.eq_iff_iff]
  simp
theorem two_le : 2 ≤ sizeLine := by rw [sizeLine_eq]; omega
theorem part_del {μ μ' : Sto} (hw : μ.wf) (h : μ.Part μ') {k : Nat} (hk : μ.next ≤ k) : μ.Part (μ'.del k) :=
  ⟨h.nx, fun j c e => ⟨by rw [Sto.del_ne (by have := (hw j c e).1; omega)]; exact (h.sub j c e).1, (h.sub j c e).2⟩⟩
theorem part_put {μ μ' : Sto} (hw : μ.wf) (h : μ.Part μ') {k : Nat} {c : Cell} (hk : μ.next ≤ k) : μ.Part (μ'.put k c) :=
  ⟨h.nx, fun j d e => ⟨by rw [Sto.put_ne (by have := (hw j d e).1; omega)]; exact (h.sub j d e).1, (h.sub j d e).2⟩⟩
theorem part_mk {μ μ' : Sto} (hw : μ.wf) (h : μ.Part μ') {c : Cell} : μ.Part (μ'.new c) :=
  part_new h fun j d e => Nat.lt_of_lt_of_le (hw j d e).1 h.nx
theorem part_nx {μ μ' : Sto} (h : μ.Part μ') : μ.next ≤ μ'.next := h.nx
/-- a while loop by an invariant; n turns at most -/
theorem whl_ind {t b : IR} {E : Env → XPost} {rt : Post} {F : Env → Sto → Prop} {xc : Nat → Env → Sto → Prop} (I : Nat → Env → Sto → Prop) (n : Nat) {δ : Env} {μ : Sto} (h : I n δ μ) (zero : ∀ δ μ, ¬ I 0 δ μ)
    (step : ∀ (n : Nat) (LW : Env → Sto → Prop), (∀ δ μ, I n δ μ → LW δ μ) → ∀ δ μ, I (n + 1) δ μ → wpT t δ μ (fun c μ' => if c = true then wpS b δ μ' ⟨LW, rt, F, LW, xc⟩ else F δ μ') (E δ)) :
    ∃ n, loopW (fun δ μ Q => wpT t δ μ Q (E δ)) (fun δ μ N => wpS b δ μ ⟨N, rt, F, N, xc⟩) F n δ μ := by
  refine ⟨n, ?_⟩
  induction n generalizing δ μ with
  | zero => exact (zero _ _ h).elim
  | succ n ih => exact step n _ (fun δ μ h => ih h) δ μ h
/-- a for loop by an invariant: i items done -/
theorem for_ind {g b : IR} {rt : Post} {F : Env → Sto → Prop} {xc : Nat → Env → Sto → Prop} {gd : Sto → Prop} (I : Nat → Env → Sto → Prop) {xs : List D} {δ : Env} {μ : Sto} (h : I 0 δ μ)
    (step : ∀ (i : Nat) (x : D) (LW : Env → Sto → Prop), xs[i]? = some x → (∀ δ μ, I (i + 1) δ μ → LW δ μ) → ∀ δ μ, I i δ μ → gd μ ∧ wpG g x δ μ fun δ' μ' => wpS b δ' μ' ⟨LW, rt, F, LW, xc⟩)
    (fin : ∀ δ μ, I xs.length δ μ → gd μ ∧ F δ μ) :
    loopF (fun x δ μ N => wpG g x δ μ fun δ' μ' => wpS b δ' μ' ⟨N, rt, F, N, xc⟩) gd F xs δ μ := by
  have : ∀ (ys : List D) (i : Nat) δ μ, xs.drop i = ys → i ≤ xs.length → I i δ μ → loopF (fun x δ μ N => wpG g x δ μ fun δ' μ' => wpS b δ' μ' ⟨N, rt, F, N, xc⟩) gd F ys δ μ := by
    intro ys
    induction ys with
    | nil =>
      intro i δ μ e hi h
      have : i = xs.length := by
        have := congrArg List.length e
        rw [List.length_drop, List.length_nil] at this
        omega
      subst this
      exact fin δ μ h
    | cons y ys ih =>
      intro i δ μ e hi h
      have hlt : i < xs.length := by
        have := congrArg List.length e
        rw [List.length_drop, List.length_cons] at this
        omega
      rw [List.drop_eq_getElem_cons hlt] at e
      injection e with e1 e2
      exact step i y _ (by rw [List.getElem?_eq_getElem hlt, e1]) (fun δ μ h => ih (i + 1) δ μ e2 (by omega) h) δ μ h
  exact this xs 0 δ μ rfl (Nat.zero_le _) h
theorem it_lst {ds : List D} {μ : Sto} {K : IPost} : itD (.lst ds) μ K = K ds (fun _ => True) μ := rfl
theorem it_tup {ds : List D} {μ : Sto} {K : IPost} : itD (.tup ds) μ K = K ds (fun _ => True) μ := rfl
theorem cut_2 {α : Type} (l : List α) : cutD l (some 2) none = l.drop 2 := cut_from l 2
theorem cut_02 {α : Type} (l : List α) : cutD l none (some 2) = l.take 2 := cut_to l 2
theorem maxI_in {z : Int} {ns : List Int} (lo hi : Int) (hz : lo ≤ z ∧ z ≤ hi) (h : ∀ n ∈ ns, lo ≤ n ∧ n ≤ hi) : lo ≤ maxI z ns ∧ maxI z ns ≤ hi := by
  cases ns with
  | nil => exact hz
  | cons n ns => exact h _ (foldl_max ns n).1
theorem atI_one {α : Type} (x y : α) (l : List α) : atI (x :: y :: l) 1 = some y := atI_nat' (x :: y :: l) 1
theorem for_gen {turn : D → Env → Sto → (Env → Sto → Prop) → Prop} {F : Env → Sto → Prop} {gd : Sto → Prop} (I : Nat → Env → Sto → Prop) {xs : List D} {δ : Env} {μ : Sto} (h : I 0 δ μ)
    (step : ∀ (i : Nat) (x : D) (LW : Env → Sto → Prop), xs[i]? = some x → (∀ δ μ, I (i + 1) δ μ → LW δ μ) → ∀ δ μ, I i δ μ → gd μ ∧ turn x δ μ LW)
    (fin : ∀ δ μ, I xs.length δ μ → gd μ ∧ F δ μ) : loopF turn gd F xs δ μ := by
  have : ∀ (ys : List D) (i : Nat) δ μ, xs.drop i = ys → i ≤ xs.length → I i δ μ → loopF turn gd F ys δ μ := by
    intro ys
    induction ys with
    | nil =>
      intro i δ μ e hi h
      have : i = xs.length := by
        have := congrArg List.length e
        rw [List.length_drop, List.length_nil] at this
        omega
      subst this
      exact fin δ μ h
    | cons y ys ih =>
      intro i δ μ e hi h
      have hlt : i < xs.length := by
        have := congrArg List.length e
        rw [List.length_drop, List.length_cons] at this
        omega
      rw [List.drop_eq_getElem_cons hlt] at e
      injection e with e1 e2
      exact step i y _ (by rw [List.getElem?_eq_getElem hlt, e1]) (fun δ μ h => ih (i + 1) δ μ e2 (by omega) h) δ μ h
  exact this xs 0 δ μ rfl (Nat.zero_le _) h
theorem intsD_len {lo : Int} {n : Nat} : (intsD lo n).length = n := by simp [intsD]
theorem intsD_at {lo : Int} {n i : Nat} {x : D} (h : (intsD lo n)[i]? = some x) : i < n ∧ x = .int (lo + i) := by
  have hi : i < n := by
    have := (List.getElem?_eq_some_iff.mp h).1
    rwa [intsD_len] at this
  rw [intsD_get hi] at h
  cases h
  exact ⟨hi, rfl⟩
theorem fmod_lt {a b : Int} (h : 0 < b) : 0 ≤ a.fmod b ∧ a.fmod b < b := by
  rw [Int.fmod_eq_emod_of_nonneg _ (Int.le_of_lt h)]
  exact ⟨Int.emod_nonneg _ (by omega), Int.emod_lt_of_pos _ h⟩
end M
end

section
set_option Elab.async false
set_option linter.all false
set_option maxRecDepth 100000
set_option maxHeartbeats 4000000
set_option autoImplicit false
/-! M: rows sorted by what they are ranked by: (0, a whole number), (1, a text). -/
namespace M
open PySem PySem.Spec PyProof.Rows L2
/-- numbers stand before texts -/
abbrev Rk := Int ⊕ List Nat
def RkAt (h : Heap) (v : Value) (k : Rk) : Prop := ∃ (p : Addr) (o : Obj) (xs : Array Value) (n : Nat), v = .ref p ∧ h.get? p = some o ∧ o.cls = .type "tuple" ∧ o.data = .seq xs n ∧
  ((∃ i t t', xs = #[.int 0 t, .int i t'] ∧ k = .inl i) ∨ ∃ z t t', xs = #[.int 1 t, .str z t'] ∧ k = .inr z.cps.toList)
theorem RkAt.uniq {h : Heap} {v : Value} {k k' : Rk} (a : RkAt h v k) (b : RkAt h v k') : k = k' := by
  obtain ⟨p, o, xs, n, rfl, e1, e2, e3, e4⟩ := a
  obtain ⟨p', o', xs', n', q0, q1, q2, q3, q4⟩ := b
  cases q0
  rw [e1] at q1
  cases q1
  rw [e3] at q3
  cases q3
  rcases e4 with ⟨i, t, t', rfl, rfl⟩ | ⟨z, t, t', rfl, rfl⟩ <;> rcases q4 with ⟨i', u, u', e, rfl⟩ | ⟨z', u, u', e, rfl⟩
  · simp at e; simp [e.2.1]
  · simp at e
  · simp at e
  · simp at e; simp [e.2.1]
noncomputable def rkKind (h : Heap) : PyProof.Rows.KeyKind where
  toKeyOrd := itemOrd
  keyOf v := open Classical in if q : ∃ k, RkAt h v k then some q.choose else none
  dflt := (.inl 0 : Rk)
theorem rk_some {h : Heap} {v : Value} {k : Rk} (a : RkAt h v k) : (rkKind h).keyOf v = some k := by
  have q : ∃ k, RkAt h v k := ⟨k, a⟩
  show (open Classical in if q : ∃ k, RkAt h v k then some q.choose else none) = _
  rw [dif_pos q]
  exact congrArg some (q.choose_spec.uniq a)
theorem rk_inv {h : Heap} {v : Value} {k : Rk} (e : (rkKind h).keyOf v = some k) : RkAt h v k := by
  have e : (open Classical in if q : ∃ k, RkAt h v k then some q.choose else none) = some k := e
  by_cases q : ∃ k, RkAt h v k
  · rw [dif_pos q] at e
    have := q.choose_spec
    rw [Option.some.inj e] at this
    exact this
  · rw [dif_neg q] at e
    cases e
open PySem.W in
theorem rk_lt {prog : Program} {w : World} {A : Around} {s : Shared} (hu : A.units + 64 < cLine) : H.LtAt prog w A s (rkKind s.heap) (tuples' true) := by
  intro E x y a b Q ha hb hq
  have hq : Q (itemLt a b) s := hq
  obtain ⟨p, o, xs, n, rfl, e1, e2, e3, e4⟩ := rk_inv ha
  obtain ⟨p', o', xs', n', rfl, q1, q2, q3, q4⟩ := rk_inv hb
  have lst : ∀ {x y x' y' : PyData} {c : Bool}, alike x x' = true → alike y y' = true → (if PyData.eqv x x' = true then (if PyData.eqv y y' = true then false else dataLt y y') else dataLt x x') = c → Q c s → Q (PyProof.Rows.lexLt itemOrd (keyToksAll [x, y]) (keyToksAll [x', y'])) s := fun {x y x' y' c} h1 h2 h3 h4 => by
    rw [← dataLt_tuple, dataLt_pair h1 h2, h3]
    exact h4
  rcases e4 with ⟨i, t, t', rfl, rfl⟩ | ⟨z, t, t', rfl, rfl⟩ <;> rcases q4 with ⟨j, u, u', rfl, rfl⟩ | ⟨y, u, u', rfl, rfl⟩
  · refine kat_lt e1 e3 q1 q3 (katLex_alike [.int 0, .int i] [.int 0, .int j] 0 _ _ _ _ (.cons (.int _ _) (.cons (.int _ _) .nil)) (.cons (.int _ _) (.cons (.int _ _) .nil)) (by simp [alikeAll, alike]) (by simp [PyData.depthAll, PyData.depth]; omega) (fun _ _ x r t e => by cases e; exact fun z => by cases z) rfl ?_)
    refine lst (by simp [alike]) (by simp [alike]) ?_ hq
    rw [dataLt_int]
    simp only [PyData.eqv]
    show _ = decide (i < j)
    by_cases hij : i = j
    · subst hij; simp
    · simp [hij]
  · refine kat_lt e1 e3 q1 q3 (kat_cons (SeqAt.EqAt.int_int 0 t 1 u prog w _ _ (kat_no (oneLt_alike (da := .int 0) (db := .int 1) (fun _ xs z => by cases z) (.int _ _) (.int _ _) (by simp [alike]) (by simp) (by simp [PyData.depth]; omega) ?_))))
    rw [dataLt_int]
    exact hq
  · refine kat_lt e1 e3 q1 q3 (kat_cons (SeqAt.EqAt.int_int 1 t 0 u prog w _ _ (kat_no (oneLt_alike (da := .int 1) (db := .int 0) (fun _ xs z => by cases z) (.int _ _) (.int _ _) (by simp [alike]) (by simp) (by simp [PyData.depth]; omega) ?_))))
    rw [dataLt_int]
    exact hq
  · refine kat_lt e1 e3 q1 q3 (katLex_alike [.int 1, .str z] [.int 1, .str y] 0 _ _ _ _ (.cons (.int _ _) (.cons (.str _ _) .nil)) (.cons (.int _ _) (.cons (.str _ _) .nil)) (by simp [alikeAll, alike]) (by simp [PyData.depthAll, PyData.depth]; omega) (fun _ _ x r t e => by cases e; exact fun z => by cases z) rfl ?_)
    refine lst (by simp [alike]) (by simp [alike]) ?_ hq
    rw [dataLt_str]
    simp only [PyData.eqv]
    show _ = decide (z.cps.toList < y.cps.toList)
    by_cases hij : z = y
    · subst hij
      simp [List.lt_irrefl]
    · simp [hij]
open PySem.W in
theorem rk_sorts {prog : Program} {w : World} {A : Around} {s : Shared} (hu : A.units + 64 < cLine) {vs : List Value} {ks : List Rk} (e : EachIs (fun v k => RkAt s.heap v k) vs ks) : SortsAt prog w A s (rkKind s.heap) vs := by
  refine ⟨fun v hv => ?_, tuples' true, rk_lt hu, fun h2 E Q hq => ?_⟩
  · obtain ⟨k, _, r⟩ := e.left v hv
    exact ⟨k, rk_some r⟩
  · have tups : ∀ {vs : List Value} {ks : List Rk}, EachIs (fun v k => RkAt s.heap v k) vs ks → ∃ fs, KatTups s.heap vs fs ∧ fs.length = vs.length ∧ ∀ f ∈ fs, ∃ i t, f = .int i t := by
      intro vs ks e
      induction e with
      | nil => exact ⟨[], KatTups.nil, rfl, fun f hf => by cases hf⟩
      | cons r t ih =>
        obtain ⟨fs, h1, h2, h3⟩ := ih
        obtain ⟨p, o, xs, n, rfl, e1, e2, e3, e4⟩ := r
        obtain ⟨i, t, hx⟩ : ∃ i t, xs[0]? = some (.int i t) := by
          rcases e4 with ⟨i, t, t', rfl, _⟩ | ⟨z, t, t', rfl, _⟩
          · exact ⟨_, _, rfl⟩
          · exact ⟨_, _, rfl⟩
        refine ⟨.int i t :: fs, KatTups.cons e1 e2 e3 hx h1, by simp [h2], fun f hf => ?_⟩
        rcases List.mem_cons.mp hf with rfl | hf
        · exact ⟨_, _, rfl⟩
        · exact h3 f hf
    obtain ⟨fs, t1, t2, t3⟩ := tups e
    refine kat_kind (T := .type "int") t1 (by omega) (fun f hf => ?_) (beq_self_eq_true _) hq
    obtain ⟨i, t, rfl⟩ := t3 f hf
    exact looks_reads (d := .int i) (.int i t)
end M
end

section
set_option Elab.async false
set_option linter.all false
set_option maxRecDepth 100000
set_option maxHeartbeats 4000000
set_option autoImplicit false
/-! M: sorted(rows, key=lambda row: rank(row[0])). -/
namespace M
open PySem PySem.Spec PyProof.Rows L2
section
variable {X : Cx} {pins : List (Addr × Obj)} {σ : L2.St} {H : Hp} {s : Shared}
/-- a lambda of one parameter, called -/
theorem lam_call1 {f c' : Addr} {a q : Str} {params : Arguments} {body : Expr} {scope : Scope} {pm ctv u : Value} {k : Nat} {A' : Around} {t : TE} {v : V} {Q : VK} {E' : Value → Shared → Prop} (I : L2.Inv X pins σ H s)
    (of1 : s.heap.get? f = some (PySem.W.kla_obj "<lambda>" q params body scope [] pm c' ctv)) (hc : H c' = some (LamX.CodeO c' q)) (Sc : FnScope [a] [a] scope)
    (hbind : bindArgs (PySem.W.kla_fn "<lambda>" q params body scope [] pm (.ref c') ctv) ⟨[u], []⟩ = pure [(a, u)]) (e0 : Env0 X.prog X.w X.K X.mg X.base A' X.stack s H) (hr : Room (k + 1) A')
    (hbody : Room k (A'.deeper (envOfC q scope s.heap.objs.size f (.ref c'))) → PE (cxOf (L2.CX X.prog X.w) X.prog X.w X.K X.mg X.base [a] q scope f (.ref c') A' X.stack s H (fun _ _ _ => False)) body t) (r : RelV v u) (ht : t (L2.start [a] [v]) H Q) :
    wpAny (model X.prog X.w) A' (call (.ref f) [u]) (EP X pins σ Q) E' s := by
  obtain ⟨⟨oc, vs, tk, hoc, hdc, hvc⟩, _, _⟩ := I.hok c' _ hc
  have lim : s.heap.NoLimit := e0.mod.nolimit.keeps fun b o e => (e0.bs b o e).1
  have rc : codeAny (model X.prog X.w) A' (.call (.ref f) ⟨[u], []⟩) (CR (L2.CX X.prog X.w) X.stack X.prog X.w H s Q (fun _ _ _ => False)) s := by
    refine PySem.W.kla_callFunE hr.depth of1 rfl Sc.co Sc.gen rfl ⟨c', oc, vs, tk, rfl, hoc, hdc, hvc⟩ ?_
    rw [hbind]
    refine wpAny_pure (wpAny_newFunctionEnv_cells Sc.kind (fun x hx => ?_) fun env he s1 x => ?_)
    · rw [List.mem_singleton] at hx
      subst hx
      rcases Sc.par a (by simp) with z | z
      · exact .inl z
      · exact .inr ⟨z, PySem.W.cellsFrom_some _ _ _ (.inl z)⟩
    · subst he
      refine ⟨lim.keeps x.toInCall.keep, ?_⟩
      have J := inv_start (CX := L2.CX X.prog X.w) (E := fun _ _ _ => False) (f := f) (cd := .ref c') (qual := q) Sc hr.hd e0 (vs := [v]) (us := [u]) rfl (.cons r .nil) x
      refine PySem.W.kla_codeExpr (wpAny_mono ((hbody (hr.deeper _)).run [] s1 _ H Q J ht) (fun y s' hq => ?_) fun e s' hq => hq)
      obtain ⟨w', H', J', rv, q⟩ := hq
      exact ⟨w', H', J'.os, J'.bare, J'.base, J'.hok, rv, q⟩
  refine wpAny_call (codeAny_mono rc fun r s' hq => ?_)
  cases r with
  | error e =>
    obtain ⟨_, _, _, _, _, _, _, _, _, _, _, _, hE⟩ := (show L2.CX X.prog X.w X.stack H s (fun _ _ _ => False) e s' from hq)
    exact hE.elim
  | ok fl =>
    cases fl with
    | ret u => exact I.after hq
    | next => exact False.elim hq
    | brk => exact False.elim hq
    | cont => exact False.elim hq
/-- what a rank stands for -/
def rkT : Rk → D
  | .inl i => .tup [.int 0, .int i]
  | .inr l => .tup [.int 1, .str ⟨l.toArray⟩]
theorem rk_of_rep {S : Ss} {k : Rk} {v : V} {u : Value} (I : L2.Inv X pins σ S.H s) (r : Rep X.K S.vw (rkT k) v) (ru : RelV v u) : RkAt s.heap u k := by
  have key : ∀ {d1 d2 : D}, Rep X.K S.vw (.tup [d1, d2]) v → ∃ p o n x1 x2 u1 u2, u = .ref p ∧ s.heap.get? p = some o ∧ o.cls = .type "tuple" ∧ o.data = .seq #[u1, u2] n ∧ Rep X.K S.vw d1 x1 ∧ Rep X.K S.vw d2 x2 ∧ RelV x1 u1 ∧ RelV x2 u2 := fun {d1 d2} r => by
    obtain ⟨p, xs, rfl, g, rr⟩ := r
    obtain ⟨x1, x2, rfl, r1, r2⟩ := rr.inv2
    obtain rfl : u = Value.ref p := ru
    obtain ⟨its, rv, tp, _⟩ := I.tuple (hid_ext.sqt g)
    obtain ⟨u1, u2, rfl, q1, q2⟩ := vals2 rv
    obtain ⟨o, e1, e2, n, e3⟩ := tp
    exact ⟨p, o, n, x1, x2, u1, u2, rfl, e1, e2, e3, r1, r2, q1, q2⟩
  cases k with
  | inl i =>
    obtain ⟨p, o, n, x1, x2, u1, u2, rfl, e1, e2, e3, r1, r2, q1, q2⟩ := key r
    have r1 : x1 = .int 0 := r1
    have r2 : x2 = .int i := r2
    subst r1 r2
    obtain ⟨t1, rfl⟩ := q1
    obtain ⟨t2, rfl⟩ := q2
    exact ⟨p, o, _, n, rfl, e1, e2, e3, .inl ⟨i, t1, t2, rfl, rfl⟩⟩
  | inr l =>
    obtain ⟨p, o, n, x1, x2, u1, u2, rfl, e1, e2, e3, r1, r2, q1, q2⟩ := key r
    have r1 : x1 = .int 1 := r1
    have r2 : x2 = .str ⟨l.toArray⟩ := r2
    subst r1 r2
    obtain ⟨t1, rfl⟩ := q1
    obtain ⟨t2, rfl⟩ := q2
    exact ⟨p, o, _, n, rfl, e1, e2, e3, .inr ⟨_, t1, t2, rfl, rfl⟩⟩
/-- what the sort keeps: its own records are untracked, and no record of the frame's -/
structure Mine (X : Cx) (pins : List (Addr × Obj)) (n0 b : Addr) : Prop where
  ge : n0 ≤ b
  pn : ∀ p ∈ X.pn ++ pins, p.1 ≠ b
theorem mine_of (I : L2.Inv X pins σ H s) {b : Addr} (h : s.heap.objs.size ≤ b) : Mine X pins s.heap.objs.size b := ⟨h, fun p hp z => by
  have q := Heap.lt_size (I.pin p hp).1
  rw [z] at q
  exact Nat.lt_irrefl _ (Nat.lt_of_lt_of_le q h)⟩
theorem Mine.ch {n0 b : Addr} (M : Mine X pins n0 b) {S : Shared} (I : L2.Inv X pins σ H s) (hn : s.heap.objs.size ≤ n0) : (b ∈ X.ex ∨ X.s_0.heap.objs.size ≤ b) ∧ b ≠ X.env.locals ∧ (∀ x c, X.env.cells.lookup x = some c → c ≠ b) ∧ ∀ p ∈ X.pn ++ pins, p.1 ≠ b := by
  have hb : s.heap.objs.size ≤ b := Nat.le_trans hn M.ge
  refine ⟨.inr (Nat.le_trans I.sz hb), fun z => ?_, fun x c e z => ?_, M.pn⟩
  · have q := I.lt
    rw [← z] at q
    exact Nat.lt_irrefl _ (Nat.lt_of_lt_of_le q hb)
  · obtain ⟨v, o, ho, _⟩ := I.cell x c e
    have q := Heap.lt_size ho
    rw [z] at q
    exact Nat.lt_irrefl _ (Nat.lt_of_lt_of_le q hb)
/-- the items as data -/
def RowsV (X : Cx) (S : Ss) (vs : List Value) (ds : List D) : Prop := PySem.W.EachIs (fun u d => ∃ v, Rep X.K S.vw d v ∧ RelV v u) vs ds
theorem RowsV.le {S S' : Ss} {vs : List Value} {ds : List D} (h : RowsV X S vs ds) (l : S.le S') : RowsV X S' vs ds := PySem.W.EachIs.mono (fun _ _ ⟨v, r, q⟩ => ⟨v, r.mono l.1, q⟩) h
theorem rows_of {S : Ss} : ∀ {ds : List D} {xs : List V} {us : List Value}, Reps X.K S.vw ds xs → Vals xs us → RowsV X S us ds
  | [], xs, us, h, r => by
    have h : xs = [] := h
    subst h
    cases r
    exact PySem.W.EachIs.nil
  | d :: ds, xs, us, h, r => by
    obtain ⟨x, t, rfl, h1, h2⟩ := h
    cases r with
    | cons a b => exact PySem.W.EachIs.cons ⟨x, h1, a⟩ (rows_of h2 b)
theorem RowsV.back {S : Ss} : ∀ {us : List Value} {ds : List D}, RowsV X S us ds → ∃ xs, Reps X.K S.vw ds xs ∧ Vals xs us
  | _, _, .nil => ⟨[], rfl, .nil⟩
  | _, _, .cons ⟨x, h1, a⟩ t => by
    obtain ⟨xs, h2, h3⟩ := RowsV.back t
    exact ⟨x :: xs, ⟨x, xs, rfl, h1, h2⟩, .cons a h3⟩
open PySem.W in
theorem srt_rest {T : List Addr} {cls : Nat → Addr} {A' : Around} {f : Value} {a kS e1 : Addr} {vs : List Value} {ds : List D} {ks : List Rk} {S0 : Ss} {P : PySem.Fin → Shared → Prop} {E : Value → Shared → Prop} {fo : Addr × Obj} (I : L2.Inv X pins σ S0.H s) (R : Rl (wd X T cls) S0)
    (na : s.heap.get? a = some (seqObj "list" #[] e1)) (nk : s.heap.get? kS = some (seqObj "list" #[] 0)) (nf : s.heap.get? fo.1 = some fo.2) (ha : S0.H a = none) (hk : S0.H kS = none) (hf : S0.H fo.1 = none) (hka : kS ≠ a) (hfk : fo.1 ≠ kS) (hfa : fo.1 ≠ a) (hfd : ∀ v, fo.2.data ≠ .cell v)
    (fa : a ∉ X.fs ∧ kS ∉ X.fs ∧ fo.1 ∉ X.fs) (ma : a ≠ X.env.locals ∧ kS ≠ X.env.locals ∧ fo.1 ≠ X.env.locals) (ch : ∀ b, b = a ∨ b = kS → (b ∈ X.ex ∨ X.s_0.heap.objs.size ≤ b) ∧ b ≠ X.env.locals ∧ (∀ x c, X.env.cells.lookup x = some c → c ≠ b) ∧ ∀ p ∈ X.pn ++ pins, p.1 ≠ b)
    (hl : ks.length = vs.length) (hZ : vs.length ≤ sizeLine) (hu : A'.units + 64 < cLine) (rows : RowsV X S0 vs ds)
    (turn : ∀ (i : Nat) (v : Value) (k : Rk), vs[i]? = some v → ks[i]? = some k → ∀ (S : Ss) (s' : Shared) (pins' : List (Addr × Obj)), S0.le S → S.μ = S0.μ → Rl (wd X T cls) S → L2.Inv X pins' σ S.H s' → s'.heap.get? fo.1 = some fo.2 →
      wpAny (model X.prog X.w) A' (call f [v]) (fun u s'' => ∃ (S' : Ss) (y : V), S.le S' ∧ Rl (wd X T cls) S' ∧ S'.μ = S.μ ∧ L2.Inv X pins' σ S'.H s'' ∧ Rep X.K S'.vw (rkT k) y ∧ RelV y u) (fun _ _ => False) s')
    (key : D → Rk) (hkey : ks = ds.map key)
    (h : ∀ (S' : Ss) (s' : Shared), S0.le S' → S'.μ = S0.μ → Rl (wd X T cls) S' → L2.Inv X pins σ S'.H s' → Rep X.K S'.vw (.lst (ds.mergeSort (sortLe itemOrd false key))) (.ref a) → P (.done (.ret .none)) s') :
    wpAny (model X.prog X.w) A' (ksk_rest a f false vs.toArray e1 (.ref kS)) P E s := by
  unfold ksk_rest
  refine wpAny_bind (wpAny_rule ?_)
  first
    | rw [List.forIn_toArray]
    | (rw [← Array.forIn_toList]; simp only [List.toList_toArray])
    | rw [← Array.forIn_toList]
  refine wpAny_bind (ksk_fold (fun i s' => ∃ (S : Ss) (kA : Array Value) (e : Nat), S0.le S ∧ S.μ = S0.μ ∧ Rl (wd X T cls) S ∧ L2.Inv X ((kS, seqObj "list" kA e) :: (a, seqObj "list" #[] e1) :: fo :: pins) σ S.H s' ∧ PySem.W.EachIs (fun u k => ∃ y, Rep X.K S.vw (rkT k) y ∧ RelV y u) kA.toList (ks.take i)) vs 0 s ?start ?step ?done)
  case start =>
    refine ⟨S0, #[], 0, .refl _, rfl, R, I.pins_of fun p hp => ?_, by rw [List.take_zero]; exact PySem.W.EachIs.nil⟩
    rcases List.mem_cons.mp hp with rfl | hp
    · exact ⟨nk, hk, ma.2.1, fa.2.1, fun v z => by cases z⟩
    · rcases List.mem_cons.mp hp with rfl | hp
      · exact ⟨na, ha, ma.1, fa.1, fun v z => by cases z⟩
      · rcases List.mem_cons.mp hp with rfl | hp
        · exact ⟨nf, hf, ma.2.2, fa.2.2, hfd⟩
        · exact I.pin p (List.mem_append_right _ hp)
  case step =>
    rintro j x s' hx ⟨S, kA, e, l, lm, R1, I1, hks⟩
    simp only [Nat.zero_add] at hks ⊢
    have hj : j < vs.length := (List.getElem?_eq_some_iff.mp hx).1
    obtain ⟨k, hkj⟩ : ∃ k, ks[j]? = some k := ⟨_, List.getElem?_eq_getElem (by omega)⟩
    have hz : kA.size ≤ vs.length := by
      have h1 := hks.length
      rw [Array.length_toList, List.length_take] at h1
      omega
    have pf : s'.heap.get? fo.1 = some fo.2 := (I1.pin fo (List.mem_append_right _ (by simp))).1
    refine wpAny_bind (wpAny_attempt (wpAny_mono (turn j x k hx hkj S s' _ l lm R1 I1 pf) (fun v s2 hq => ?_) fun _ _ hF => hF.elim))
    obtain ⟨S2, y, l2, R2, m2, I2, ry, rv⟩ := hq
    try dsimp only
    have pk := I2.pin (kS, seqObj "list" kA e) (List.mem_append_right _ (by simp))
    have pa := I2.pin (a, seqObj "list" #[] e1) (List.mem_append_right _ (by simp))
    have pf2 := I2.pin fo (List.mem_append_right _ (by simp))
    have sb := Heap.SameBut.update s2.heap kS (Obj.mapSeq (·.push v))
    obtain ⟨c2, hc2⟩ : ∃ c2, (s2.heap.update kS (Obj.mapSeq (·.push v))).get? kS = some (seqObj "list" (kA.push v) c2) := ⟨_, get?_update_seq pk.1 (·.push v)⟩
    refine wpAny_bind (listUpdate_at pk.1 rfl ?_ (Nat.le_trans hz hZ) (Nat.le_trans (Nat.le_of_eq (Array.size_push ..)) (Nat.succ_le_succ (Nat.le_trans hz hZ))))
    have I3 : L2.Inv X pins σ S2.H s2 := I2.pins_of fun p hp => I2.pin p (List.mem_append_right _ (by simp [hp]))
    obtain ⟨q1, q2, q3, q4⟩ := ch kS (.inr rfl)
    have I4 : L2.Inv X pins σ S2.H { s2 with heap := s2.heap.update kS (Obj.mapSeq (·.push v)), toks := s2.toks } := I3.turned (it := kS) (fun b o hb e => (sb.2 b hb).trans e) pk.2.1 q2 q1 q3 q4
    have I5 : L2.Inv X ((kS, seqObj "list" (kA.push v) c2) :: (a, seqObj "list" #[] e1) :: fo :: pins) σ S2.H { s2 with heap := s2.heap.update kS (Obj.mapSeq (·.push v)), toks := s2.toks } := I4.pins_of fun p hp => by
      rcases List.mem_cons.mp hp with rfl | hp
      · exact ⟨hc2, pk.2.1, pk.2.2.1, pk.2.2.2.1, fun v z => by cases z⟩
      · rcases List.mem_cons.mp hp with rfl | hp
        · exact ⟨(sb.2 _ hka.symm).trans pa.1, pa.2.1, pa.2.2.1, pa.2.2.2.1, fun v z => by cases z⟩
        · rcases List.mem_cons.mp hp with rfl | hp
          · exact ⟨(sb.2 _ hfk).trans pf2.1, pf2.2⟩
          · exact I4.pin p (List.mem_append_right _ hp)
    refine wpAny_pure ⟨rfl, S2, kA.push v, c2, l.trans l2, m2.trans lm, R2, I5, ?_⟩
    rw [show (kA.push v).toList = kA.toList ++ [v] by simp, show ks.take (j + 1) = ks.take j ++ [k] by rw [List.take_add_one, hkj]; simp]
    exact each_snoc ⟨y, ry, rv⟩ (hks.mono fun u d ⟨y, r, q⟩ => ⟨y, r.mono l2.1, q⟩)
  case done =>
    rintro s' ⟨S, kA, e, l, lm, R1, I1, hks⟩
    rw [List.take_of_length_le (by omega)] at hks
    have hsz : kA.size = vs.length := by
      have h1 := hks.length
      rw [Array.length_toList] at h1
      omega
    have pk := I1.pin (kS, seqObj "list" kA e) (List.mem_append_right _ (by simp))
    have pa := I1.pin (a, seqObj "list" #[] e1) (List.mem_append_right _ (by simp))
    try dsimp only
    refine wpAny_bind (listItems_at pk.1 rfl ?_)
    have hka' : PySem.W.EachIs (fun u k => RkAt s'.heap u k) kA.toList ks := hks.mono fun u k ⟨y, r, q⟩ => rk_of_rep I1 r q
    have I2 : L2.Inv X pins σ S.H s' := I1.pins_of fun p hp => I1.pin p (List.mem_append_right _ (by simp [hp]))
    refine keyH_end (κ := rkKind s'.heap) (h₁ := PySem.W.hideAll s'.heap [kS]) (fun b o hb q => of_hideAll _ q) (hideAll_none _ (by simp)) pk.1 pa.1 hka (rk_sorts hu hka') hsz hZ fun h' tk c kp hD => ?_
    have kept : ∀ b o, b ≠ a → b ≠ kS → s'.heap.get? b = some o → h'.get? b = some o := fun b o h1 h2 e => kp b o h1 (hideAll_get _ e (by simpa using h2))
    have out : RowsV X S (sortVals (rkKind s'.heap) false kA.toList vs) (ds.mergeSort (sortLe itemOrd false key)) := by
      refine sortVals_each (κ := rkKind s'.heap) key (rows.le l) ?_
      rw [hkey] at hka'
      exact (each_of_map key hka').mono fun u d r => rk_some r
    obtain ⟨ys, ry, rv⟩ := out.back
    obtain ⟨lf, Rf, gf⟩ := R1.fresh (o := .lst ys) pa.2.1
    have hol : (sortVals (rkKind s'.heap) false kA.toList vs).length = vs.length := sortVals_length false (by rw [Array.length_toList]; exact hsz)
    have Jn : L2.Inv X pins σ (upd S.H a (.lst ys)) { s' with heap := h', gens := s'.gens, drawn := s'.drawn, toks := tk } := by
      refine I2.step (ch := [kS, a]) (fun b hb => ?_) (fun b o hL hb hc e n => kept b o (fun z => hc (by simp [z])) (fun z => hc (by simp [z])) e) (fun b o hL hb hc e n => ⟨o.slots, kept b o (fun z => hc (by simp [z])) (fun z => hc (by simp [z])) e⟩)
        (fun b o hc e n => by rw [upd_ne (fun z => hc (by simp [z]))]; exact n) (fun b o hc e => ⟨o, kept b o (fun z => hc (by simp [z])) (fun z => hc (by simp [z])) e⟩) (fun b xs e => by rw [upd_ne (ne_of_none e pa.2.1)]; exact e) (fun b o u e => by rw [upd_ne (ne_of_none e pa.2.1)]; exact e)
        (fun b ps e => ⟨#[], by rw [upd_ne (ne_of_none e pa.2.1), e]; simp⟩) (fun m hm => ?_) (fun b u e => ?_) I2.bare
      · simp only [List.mem_cons, List.not_mem_nil, or_false] at hb
        exact ch b (hb.symm)
      · obtain ⟨o, es, ep, ho, r⟩ := hm
        exact ⟨o, es, ep, kept _ o (fun z => ma.1 z.symm) (fun z => ma.2.1 z.symm) ho, r⟩
      · by_cases hb : b = a
        · subst hb
          rw [upd_same] at e
          cases e
          exact ⟨by rw [rv.length, hol]; exact hZ, _, c, rv, hD⟩
        · rw [upd_ne hb] at e
          refine (I2.hok b u e).stay (fun d v hd q => kept d v ?_ ?_ q) (fun d q => by rw [upd_ne (ne_of_none q pa.2.1)]; exact q) fun d xs q => by rw [upd_ne (ne_of_none q pa.2.1)]; exact q
          · rcases hd with z | z
            · rw [z]; exact hb
            · exact ne_of_none z pa.2.1
          · rcases hd with z | z
            · rw [z]; exact ne_of_none e pk.2.1
            · exact ne_of_none z pk.2.1
    exact h { S with H := upd S.H a (.lst ys) } _ (l.trans lf) lm Rf Jn ⟨a, ys, rfl, gf, ry.mono lf.1⟩
/-! ### the expression -/
def lamScB (scope : Scope) : Bool := decide (scope.kind = .function) && !scope.isCoroutine && !scope.isGenerator && decide (scope.names.lookup ("row" : Str) = some .local) && scope.names.all fun y => !decide (y.2 = .free)
theorem lamSc_ok {scope : Scope} (h : lamScB scope = true) : FnScope [("row" : Str)] [("row" : Str)] scope ∧ ∀ cells, cloFrom cells scope.names [] = [] := by
  unfold lamScB at h
  simp only [Bool.and_eq_true, Bool.not_eq_true', decide_eq_true_eq, List.all_eq_true, decide_eq_false_iff_not] at h
  obtain ⟨⟨⟨⟨h1, h2⟩, h3⟩, h4⟩, h5⟩ := h
  refine ⟨⟨h1, h2, h3, by simp, rfl, fun x hx => ?_, fun y hy => by simpa using h5 y hy⟩, fun cells => ?_⟩
  · rw [List.mem_singleton] at hx
    subst hx
    exact .inl h4
  · have : ∀ (l : List (Str × NameKind)), (∀ y ∈ l, y.2 ≠ .free) → cloFrom cells l [] = [] := by
      intro l
      induction l with
      | nil => intro _; rfl
      | cons y l ih =>
        intro hl
        obtain ⟨n, k⟩ := y
        unfold cloFrom
        rw [if_neg (by have := hl (n, k) (by simp); simpa using this)]
        exact ih fun z hz => hl z (by simp [hz])
    exact this _ fun y hy => by simpa using h5 y hy
/-- sorted(e, key=lambda row: body) -/
def fSrt (cb : IR) : XF := fun _ sc t e => match e with
  | .Call (.Name y _) [e] [⟨some kw, .Lambda ⟨[], [⟨a, _, _⟩], none, [], [], none, []⟩ body scope _, _⟩] _ =>
    if y = ("sorted" : Str) ∧ glB sc y = true ∧ t = true ∧ lamK sc = true ∧ kw = Str.ofString "key" ∧ a = ("row" : Str) ∧ isStar e = false ∧ lamScB scope = true ∧ chkE [("row" : Str)] cb scope false body = true then some [e] else none
  | _ => none
open PySem.W in
def eSrt (cb : IR) (key : D → Rk) : EvE := fun _ ds μ Q _ => match ds with
  | [d] => match asL d μ with
    | some rows => rows.length ≤ sizeLine ∧ (∀ r ∈ rows, ∀ μ', wpE cb [some r] μ' (fun y μ'' => y = rkT (key r) ∧ μ'' = μ') (fun _ _ => False)) ∧ Q (.lst (rows.mergeSort (sortLe itemOrd false key))) μ
    | none => False
  | _ => False
open PySem.W in
theorem srt_call {T : List Addr} {cls : Nat → Addr} {f : Addr} {fobj : Obj} {l : Addr} {S0 : Ss} {ds : List D} {xs : List V} {key : D → Rk} {Q : VK} {k : Nat} (hr : Room (k + 3) X.A) (I : L2.Inv X pins σ S0.H s) (R : Rl (wd X T cls) S0) (hl : SqL X.K S0.H l xs) (rr : Reps X.K S0.vw ds xs) (hz : ds.length ≤ sizeLine)
    (hf : s.heap.get? f = some fobj) (hfn : S0.H f = none) (hff : f ∉ X.fs) (hfl : f ≠ X.env.locals) (hfd : ∀ v, fobj.data ≠ .cell v)
    (turn : ∀ (d : D) (x : V) (u : Value), d ∈ ds → ∀ (S : Ss) (s' : Shared) (pins' : List (Addr × Obj)), S0.le S → S.μ = S0.μ → Rl (wd X T cls) S → L2.Inv X pins' σ S.H s' → s'.heap.get? f = some fobj → Rep X.K S.vw d x → RelV x u →
      wpAny (model X.prog X.w) X.A.in1.in1 (call (.ref f) [u]) (fun u s'' => ∃ (S' : Ss) (y : V), S.le S' ∧ Rl (wd X T cls) S' ∧ S'.μ = S.μ ∧ L2.Inv X pins' σ S'.H s'' ∧ Rep X.K S'.vw (rkT (key d)) y ∧ RelV y u) (fun _ _ => False) s')
    (h : ∀ (S' : Ss) (a : Addr), S0.le S' → S'.μ = S0.μ → Rl (wd X T cls) S' → Rep X.K S'.vw (.lst (ds.mergeSort (sortLe itemOrd false key))) (.ref a) → Q (.ref a) S'.H) :
    wpAny (model X.prog X.w) X.A (call (.builtin "sorted") [.ref l] [(Str.ofString "key", .ref f)]) (EP X pins σ Q) X.xe s := by
  obtain ⟨its, rv, hp, hlz⟩ := I.list hl
  have rows : RowsV X S0 its ds := rows_of rr rv
  have hlen : its.length = ds.length := PySem.W.EachIs.length rows
  have hlt := Heap.lt_size hf
  refine sorted_of_sort (s := s) (vs := its) hp.isList (by rw [hlen]; exact hz) (ksk_s1 _ _) (fun x => ksk_l1 _ _) fun E' => ?_
  rw [ksk_t1]
  have cat := copyHeap_at s.heap its
  have old : ∀ b o, s.heap.get? b = some o → (sortingHeap (copyHeap s.heap its) (s.heap.objs.size + 1) its).get? b = some o := fun b o e => sorting_copy_old e
  obtain ⟨e1, ho1⟩ : ∃ e1, ((copyHeap s.heap its).update (s.heap.objs.size + 1) (Obj.mapSeq fun _ => (#[] : Array Value))).get? (s.heap.objs.size + 1) = some (seqObj "list" #[] e1) := ⟨_, get?_update_seq cat fun _ => #[]⟩
  have hcs : s.heap.objs.size + 1 < (copyHeap s.heap its).objs.size := Heap.lt_size cat
  have hkS : (((copyHeap s.heap its).update (s.heap.objs.size + 1) (Obj.mapSeq fun _ => (#[] : Array Value))).push (seqObj "tuple" its.toArray 0)).objs.size = (copyHeap s.heap its).objs.size + 1 := by rw [size_push', Heap.size_update]
  unfold ksk_tree
  refine wpAny_bind (listItems_at cat rfl ?_)
  refine wpAny_bind (listUpdate_at cat rfl ?_ (by rw [List.size_toArray, hlen]; exact hz) (Nat.zero_le _))
  refine wpAny_bind (seqEpoch_at ho1 rfl ?_)
  refine wpAny_bind (wpAny_newTuple ?_ (by show its.length ≤ _; rw [hlen]; exact hz))
  refine wpAny_bind (wpAny_newList ?_ (Nat.zero_le _))
  refine wpAny_holding ?_
  generalize hkk : (((copyHeap s.heap its).update (s.heap.objs.size + 1) (Obj.mapSeq fun _ => (#[] : Array Value))).push (seqObj "tuple" its.toArray 0)).objs.size = kS
  have hkS' : kS = (copyHeap s.heap its).objs.size + 1 := hkk.symm.trans hkS
  have hk1 : s.heap.objs.size + 1 < kS := by omega
  have I1 : L2.Inv X pins σ S0.H { s with heap := (((copyHeap s.heap its).update (s.heap.objs.size + 1) (Obj.mapSeq fun _ => (#[] : Array Value))).push (seqObj "tuple" its.toArray 0)).push (seqObj "list" #[] 0) } := I.kept (t' := s.toks) old
  have hka : S0.H (s.heap.objs.size + 1) = none := I.hok.fresh (Nat.le_succ _)
  have hkk2 : S0.H kS = none := I.hok.fresh (by omega)
  have fne : ∀ b, s.heap.objs.size ≤ b → f ≠ b := fun b hb z => by
    rw [z] at hlt
    exact Nat.lt_irrefl _ (Nat.lt_of_lt_of_le hlt hb)
  have lne : ∀ b, s.heap.objs.size ≤ b → b ≠ X.env.locals := fun b hb z => by
    have q := I.lt
    rw [← z] at q
    exact Nat.lt_irrefl _ (Nat.lt_of_lt_of_le q hb)
  have hu : X.A.in1.in1.units + 64 < cLine := (hr.mono (show 2 ≤ k + 3 by omega)).in1.in1.units
  have chs : ∀ b, s.heap.objs.size ≤ b → (b ∈ X.ex ∨ X.s_0.heap.objs.size ≤ b) ∧ b ≠ X.env.locals ∧ (∀ x c, X.env.cells.lookup x = some c → c ≠ b) ∧ ∀ p ∈ X.pn ++ pins, p.1 ≠ b := fun b hb =>
    (mine_of I hb).ch (S := s) I (Nat.le_refl _)
  refine srt_rest (fo := (f, fobj)) (ks := ds.map key) (ds := ds) (key := key) (S0 := S0) I1 R (Heap.get?_push_of_some _ (Heap.get?_push_of_some _ ho1)) (by rw [← hkk]; exact Heap.get?_push_size _ rfl) (old _ _ hf) hka hkk2 hfn (Nat.ne_of_gt hk1) (fne _ (by omega)) (fne _ (by omega)) hfd ⟨I.nofs (Nat.le_succ _), I.nofs (by omega), hff⟩ ⟨lne _ (by omega), lne _ (by omega), hfl⟩ (fun b hb => by
      rcases hb with rfl | rfl
      · exact chs _ (by omega)
      · exact chs _ (by omega)) (by rw [List.length_map, hlen]) (by rw [hlen]; exact hz) hu rows (fun i v k' hv hk' S s' pins' l lm R1 J hf1 => ?_) rfl fun S' s' l lm R1 J r1 => ⟨rfl, .ref (s.heap.objs.size + 1), S'.H, J, rfl, h S' _ l lm R1 r1⟩
  have at_ : ∀ {us : List Value} {es : List D} (i : Nat) {u : Value}, RowsV X S0 us es → us[i]? = some u → ∃ d, es[i]? = some d ∧ ∃ x, Rep X.K S0.vw d x ∧ RelV x u := by
    intro us es i u hh hi
    induction hh generalizing i with
    | nil => simp at hi
    | cons q t ih =>
      cases i with
      | zero =>
        simp only [List.getElem?_cons_zero, Option.some.injEq] at hi
        subst hi
        exact ⟨_, rfl, q⟩
      | succ i => simpa using ih i (by simpa using hi)
  obtain ⟨d, hd, x, rx, ru⟩ := at_ i rows hv
  rw [List.getElem?_map, hd] at hk'
  have hk' : some (key d) = some k' := hk'
  cases hk'
  exact turn d x v (List.mem_of_getElem? hd) S s' pins' l lm R1 J hf1 (rx.mono l.1) ru
/-- the table grown -/
def TabN (H H2 : Hp) (P : Addr) (q : Str) : Prop := ∃ tab ps2 : Array Value, H P = some (.tbl tab) ∧ H2 P = some (.tbl ps2) ∧ TriplesOk ps2.toList ∧ ∀ (pos : Pos) (cv : Value), codeAmong pos ps2.toList = some cv → ∃ d, cv = .ref d ∧ H2 d = some (LamX.CodeO d q) ∧ (H d = none ∨ ∃ pos', codeAmong pos' tab.toList = some cv)
/-- the lambda is made; all but its table stays -/
theorem lam_new {q : Str} {c P : Addr} {params : Arguments} {body : Expr} {scope : Scope} {lpos : Pos} {E : Value → Shared → Prop} {Q : Value → Shared → Prop} (I : L2.Inv X pins σ H s) (tb : LamX.TabB X.base X.mg c P) (hcode : X.env.code = .ref c) (hq : X.env.qual ++ "<lambda>" = q) (hT : LamX.TabS H P q)
    (hdef : defaultsOf params X.env = ([], [])) (hfr : ∀ y ∈ scope.names, y.2 ≠ .free) (hcl : cloFrom X.env.cells scope.names [] = [])
    (h : ∀ (f c' : Addr) (pm ctv : Value) (H2 : Hp) (s2 : Shared), L2.Inv X pins σ H2 s2 → (∀ b o, b ≠ P → H b = some o → H2 b = some o) → (∀ b, H b = none → s.heap.get? b ≠ none → H2 b = none) → TabN H H2 P q → s2.heap.get? f = some (PySem.W.kla_obj "<lambda>" q params body scope [] pm c' ctv) → H2 f = none → s.heap.objs.size ≤ f → H2 c' = some (LamX.CodeO c' q) → (H c' = none ∨ ∃ tab pos', H P = some (.tbl tab) ∧ codeAmong pos' tab.toList = some (.ref c')) → Q (.ref f) s2) :
    wpAny (model X.prog X.w) X.A (eval (.Lambda params body scope lpos) X.env) Q E s := by
  subst hq
  obtain ⟨tab, atP, triples, among⟩ := hT
  have fr0 : ∀ y ∈ scope.names, y.2 = .free → ∃ d, X.env.cells.lookup y.1 = some d := fun y hy z => absurd z (hfr y hy)
  have hb := tb.bm.keeps I.bk
  have objP : s.heap.get? P = some { cls := .none, data := .fields tab } := I.hok P _ atP
  have clo := closure_ok fr0
  rw [hcl] at clo
  refine PySem.W.kla_eval hdef ?_
  cases found : codeAmong lpos tab.toList with
  | some cv =>
    obtain ⟨d, rfl, hd⟩ := among lpos cv found
    refine PySem.W.kla_makeFunctionHit (mg := X.mg) (c := c) (P := P) (ps := tab) clo I.ok.glob (I.mod.glob.keeps I.bk) hcode (tb.code.keeps I.bk) objP triples found hb fun ctv g tk grow big => ?_
    refine h g.objs.size d _ ctv H _ (I.kept (t' := tk) fun b o e => Heap.get?_push_of_some _ (grow b o e)) (fun _ _ _ e => e) (fun _ e _ => e) ⟨tab, tab, atP, atP, triples, fun p2 cv z => let ⟨d0, r1, r2⟩ := among p2 cv z; ⟨d0, r1, r2, .inr ⟨p2, z⟩⟩⟩ (Heap.get?_push_size _ rfl) (I.hok.fresh big) big hd (.inr ⟨tab, _, atP, found⟩)
  | none =>
    refine PySem.W.kla_makeFunction (mg := X.mg) (c := c) (P := P) (ps := tab) clo I.ok.glob (I.mod.glob.keeps I.bk) hcode (tb.code.keeps I.bk) objP triples found tb.gP hb fun d ctv g tk grow ge lt rec last => ?_
    obtain ⟨d2, oc, vals, tt, ed, hoc, hdat, hname⟩ := rec
    cases ed
    have noD : H d = none := I.hok.fresh ge
    have big : s.heap.objs.size ≤ g.objs.size := Nat.le_trans ge (Nat.le_of_lt lt)
    have neP : P ≠ d := ne_of_none atP noD
    have J := LamX.inv_table (t' := tk) (more := #[rawInt lpos.line, rawInt lpos.col, .ref d]) (h' := g.push (PySem.W.kla_obj "<lambda>" (X.env.qual ++ "<lambda>") params body scope [] ((X.mg "__name__").getD .none) d ctv)) I atP
      (fun b o hne e => Heap.get?_push_of_some _ (grow b o hne e)) (Heap.get?_push_of_some _ last) ge ⟨oc, vals, tt, Heap.get?_push_of_some _ hoc, hdat, hname⟩
    have stay : ∀ b o, b ≠ P → H b = some o → upd (upd H P (.tbl (tab ++ #[rawInt lpos.line, rawInt lpos.col, .ref d]))) d (LamX.CodeO d (X.env.qual ++ "<lambda>")) b = some o := fun b o hne e => by
      rw [upd_ne (ne_of_none e noD), upd_ne hne]
      exact e
    have eL : (tab ++ #[rawInt lpos.line, rawInt lpos.col, .ref d]).toList = tab.toList ++ [rawInt lpos.line, rawInt lpos.col, .ref d] := by simp
    refine h g.objs.size d _ ctv _ _ J stay (fun b e hne => ?_) ⟨tab, _, atP, by rw [upd_ne neP, upd_same], by rw [eL]; exact PySem.TriplesOk_snoc _ _ _ _ triples, fun p2 cv hcv => ?_⟩ (Heap.get?_push_size _ rfl) ?_ big upd_same (.inl noD)
    · have h1 : b ≠ d := fun z => by
        cases e2 : s.heap.get? b with
        | none => exact hne e2
        | some o =>
          have := Heap.lt_size e2
          rw [z] at this
          exact Nat.lt_irrefl _ (Nat.lt_of_lt_of_le this ge)
      have h2 : b ≠ P := fun z => by rw [z, atP] at e; cases e
      rw [upd_ne h1, upd_ne h2]
      exact e
    · rw [eL] at hcv
      rcases LamX.among_app _ triples hcv with z | z
      · obtain ⟨d0, r1, r2⟩ := among p2 cv z
        exact ⟨d0, r1, stay _ _ (fun zz => by rw [zz, atP] at r2; exact LamX.codeO_ne _ (Option.some.inj r2).symm) r2, .inr ⟨p2, z⟩⟩
      · exact ⟨d, z, upd_same, .inl noD⟩
    · have n1 : g.objs.size ≠ d := Nat.ne_of_gt lt
      have n2 : g.objs.size ≠ P := Nat.ne_of_gt (Nat.lt_of_lt_of_le (Heap.lt_size objP) big)
      rw [upd_ne n1, upd_ne n2]
      exact I.hok.fresh big
/-- the machine's state behind that -/
theorem Rl.lamT {W : Wd} {S : Ss} {H2 : Hp} (R : Rl W S) (hz : W.cls 1000 ≠ 0) (stay : ∀ b o, b ≠ W.cls 1000 → S.H b = some o → H2 b = some o) (hT : TabN S.H H2 (W.cls 1000) lamQ) : S.le { S with H := H2 } ∧ Rl W { S with H := H2 } := by
  obtain ⟨z1, ps, z2, z3, z4⟩ := R.lam hz
  obtain ⟨tab, ps2, y0, y1, y2, y3⟩ := hT
  have z2' := hid_ex z2
  rw [y0] at z2'
  cases z2'
  have nP : ¬ S.own (W.cls 1000) := (hid_some.mp z2).2
  have ex : ∀ a o, a ≠ W.cls 1000 → hid S a = some o → hid { S with H := H2 } a = some o := fun a o ha e => by
    obtain ⟨g1, g2⟩ := hid_some.mp e
    exact hid_some.mpr ⟨stay a o ha g1, g2⟩
  have l : S.le { S with H := H2 } := by
    refine ⟨⟨fun a o e => ?_, fun _ _ => rfl, Nat.le_refl _⟩, rfl⟩
    have e : hid S a = some o := e
    by_cases ha : a = W.cls 1000
    · subst ha
      rw [z2] at e
      cases e
      exact .inr ⟨ps, ps2, rfl, hid_some.mpr ⟨y1, nP⟩, fun _ => y2⟩
    · exact .inl (ex a o ha e)
  have stay' : ∀ b, b ≠ W.cls 1000 → S.H b ≠ none → H2 b = S.H b := fun b hb hn => by
    cases e : S.H b with
    | none => exact absurd e hn
    | some o => exact stay b o hb e
  refine ⟨l, R.inj, R.lt, fun k c e => (R.ok k c e).mono l.1 (stay' _ (fun z => nP (.inl ⟨k, c, e, z⟩)) (by obtain ⟨o, eo⟩ := R.live e; rw [eo]; exact fun z => by cases z)), fun a ha => tab_ext l.1.1 (R.tab a ha), fun a u e => ⟨stay a u (fun z => nP (.inr ⟨u, by rw [← z]; exact e⟩)) (R.prv a u e).1, (R.prv a u e).2⟩, fun _ => ⟨z1, ps2, hid_some.mpr ⟨y1, nP⟩, y2, fun pos cv hc => ?_⟩⟩
  obtain ⟨d, r1, r2, r3⟩ := y3 pos cv hc
  rcases r3 with r3 | ⟨p', r3⟩
  · refine ⟨d, r1, hid_some.mpr ⟨r2, fun z => ?_⟩⟩
    have z : S.own d := z
    obtain ⟨o, e⟩ := R.owned z
    rw [r3] at e
    cases e
  · obtain ⟨d', r4, r5⟩ := z4 p' cv r3
    refine ⟨d', r4, ex _ _ (fun z => ?_) r5⟩
    rw [z, z2] at r5
    exact LamX.codeO_ne _ (Option.some.inj r5).symm
theorem n_srt {B : Bs} {T : List Addr} {cls : Nat → Addr} {cb : IR} {key : D → Rk} {j k : Nat} {cd : Prop} (hs : B.mg "sorted" = none) (hz : cls 1000 ≠ 0) (hj : j + 3 ≤ k) (hcb : okE B T cls j False cb) : NodOk B T cls k cd (fSrt cb) (eSrt cb key) := by
  intro X top Wx e es as S hf hp
  unfold fSrt at hf
  split at hf
  · rename_i y p e kw a ann apos body scope lpos kpos pos
    split at hf
    · rename_i hc
      obtain ⟨rfl, hg, ht, hlk, rfl, rfl, hst, hsc, hck⟩ := hc
      cases hf
      obtain ⟨ci, rfl, _, hi⟩ := hp.one
      have hB := S.bs
      subst hB
      obtain ⟨Sc, hcl⟩ := lamSc_ok hsc
      obtain ⟨hq, c, hcode, TB⟩ := S.lm ht hlk
      refine ⟨fun pins s σ H Q I hh => ?_⟩
      obtain ⟨S0, δ, QM, QX, rfl, R, hE, hw, hqq, hx⟩ := hh
      simp only [wpE, wpA] at hw
      refine wpAny_Call_Name_kw (ld_blt I (gl_of hg) hs (show bootBuiltins "sorted" = some (.builtin "sorted") by decide +kernel) ?_ (by decide) (by decide))
      have hd : DA (wd X T cls) Wx (.cons ci .nil) σ S0.H fun vs H1 => ∃ (S1 : Ss) (l : Addr) (xs : List V) (rows : List D), H1 = S1.H ∧ vs = [.ref l] ∧ S0.le S1 ∧ Rl (wd X T cls) S1 ∧ SqL X.K S1.H l xs ∧ Reps X.K S1.vw rows xs ∧ rows.length ≤ sizeLine ∧ (∀ r ∈ rows, ∀ μ', wpE cb [some r] μ' (fun y μ'' => y = rkT (key r) ∧ μ'' = μ') (fun _ _ => False)) ∧
          QM (.lst (rows.mergeSort (PySem.W.sortLe itemOrd false key))) S1.μ := by
        refine ⟨S0, δ, fun ds μ1 => eSrt cb key δ ds μ1 QM QX, QX, rfl, R, hE, by simpa only [wpA] using hw, fun S1 ds vs l1 R1 r1 w1 => ?_, hx⟩
        unfold eSrt at w1
        dsimp only at w1
        split at w1
        · rename_i d
          split at w1
          · rename_i rows e1
            obtain ⟨x, rfl, q1⟩ := Reps.inv1 r1
            obtain ⟨l, xs, rfl, g, rr⟩ := asL_rep R1 q1 e1
            exact ⟨S1, l, xs, rows, rfl, rfl, l1, R1, g, rr, w1.1, w1.2.1, w1.2.2⟩
          · exact w1.elim
        · exact w1.elim
      have ha := pa_of (.cons ci .nil) hp
      refine PyProof.Rows.callWith_kw (thn (ha.run pos pins s σ S0.H _ I hd) fun us s1 ⟨vs, H1, I1, r1, S1, l, xs, rows, eH, ev, l1, R1, hl, rr, hzz, hrow, hqm⟩ => ?_) (by rw [star_of hst]; rfl) (by rw [star_of hst]; rfl) rfl rfl
      subst eH ev
      obtain ⟨u1, rfl, ru⟩ := vals1 r1
      obtain rfl : u1 = Value.ref l := ru
      show wpAny _ _ (evalAll [do let v ← eval (.Lambda ⟨[], [⟨"row", ann, apos⟩], none, [], [], none, []⟩ body scope lpos) X.env; standAt pos; pure v]) _ _ s1
      obtain ⟨lt1, hT⟩ := R1.lam hz
      have tabs : LamX.Tabs [(cls 1000, lamQ)] S1.H := fun q hqm2 => by
        rw [List.mem_singleton] at hqm2
        subst hqm2
        exact hT.ext fun a o e => hid_ex e
      refine wpAny_evalAll_cons (wpAny_bind (lam_new I1 TB hcode hq (hT.ext fun a o e => hid_ex e) rfl Sc.nofree (hcl _) fun f c' pm ctv H2 s2 I2 st1 st2 TN hfo hfn hge hco hold => ?_))
      refine wpAny_bind (wpAny_standAt (wpAny_pure (wpAny_evalAll_nil ?_)))
      obtain ⟨l2, R2⟩ := R1.lamT hz st1 TN
      have hroom : Room (j + 3) X.A := S.g.room.mono hj
      have nP : ∀ {a : Addr} {xs : List V}, SqL X.K S1.H a xs → SqL X.K H2 a xs := fun {a xs} h => by
        have nT : ∀ o, Rd S1.H a o → (∀ ps, o ≠ .tbl ps) → Rd H2 a o := fun o h hn => by
          obtain ⟨q1, qs, q2, _, _⟩ := R1.lam hz
          have q2 := hid_ex q2
          rcases h with h | ⟨ob, h⟩
          · exact .inl (st1 _ _ (fun z => by rw [z, q2] at h; exact hn _ (Option.some.inj h).symm) h)
          · exact .inr ⟨ob, st1 _ _ (fun z => by rw [z, q2] at h; cases h) h⟩
        rcases h with h | h
        · exact .inl (nT _ h fun ps z => by cases z)
        · exact .inr h
      have flt : f ≠ X.env.locals := fun z => by
        have q := I1.lt
        rw [← z] at q
        exact Nat.lt_irrefl _ (Nat.lt_of_lt_of_le q hge)
      refine srt_call (key := key) (S0 := { S1 with H := H2 }) (ds := rows) hroom I2 R2 (nP hl) (rr.mono l2.1) hzz hfo hfn (I1.nofs hge) flt (fun v z => by cases z) (fun d x u hd S4 s4 pins' l4 m4 R4 J hf4 rx ru => ?_) fun S' a l5 m5 R5 r5 => ?_
      · have hco2 : hid { S1 with H := H2 } c' = some (LamX.CodeO c' lamQ) := by
          refine hid_some.mpr ⟨hco, fun z => ?_⟩
          have z : S1.own c' := z
          rcases hold with e | ⟨tab, p', e1, e2⟩
          · obtain ⟨o, e3⟩ := R1.owned z
            rw [e] at e3
            cases e3
          · obtain ⟨_, ps, q2, q3, q4⟩ := R1.lam hz
            have q5 := hid_ex q2
            have q5 := q5.symm.trans e1
            cases q5
            obtain ⟨d', q6, q7⟩ := q4 p' _ e2
            cases q6
            exact (hid_some.mp q7).2 z
        have hco4 : S4.H c' = some (LamX.CodeO c' lamQ) := hid_ex (l4.1.1.at hco2 fun ps => LamX.codeO_ne ps)
        have e0 : Env0 X.prog X.w X.K X.mg X.base X.A.in1.in1 X.stack s4 S4.H := J.env0.in1.in1
        have hrm : Room (j + 1) X.A.in1.in1 := (hroom.in1 (k := j + 2)).in1
        refine wpAny_mono (lam_call1 (k := j) (Q := fun v H5 => ∃ S5, S5.H = H5 ∧ S4.le S5 ∧ Rl (wd X T cls) S5 ∧ S5.μ = S4.μ ∧ Rep X.K S5.vw (rkT (key d)) v) (E' := fun _ _ => False) J hf4 hco4 Sc (by rfl) e0 hrm (t := DE (wd X T cls) W0 cb) (fun hr2 => ?_) ru ?_) (fun y s5 hq5 => ?_) fun _ _ z => z
        · exact sndE (B := Cx.bs X) (k := j) (cd := False) (top := false) cb ⟨rfl, ⟨rfl, Sc.nd, hr2, fun h => by cases h⟩, fun z => z.elim, takesF, fun _ z => z, (fun z => by cases z), fun z => by cases z⟩ hcb hck
        · refine ⟨S4, [some d], _, _, rfl, R4, ?_, hrow d hd S4.μ, fun S5 y v5 l6 R6 r6 w6 => ?_, afx_no⟩
          · exact env_start (N := [("row" : Str)]) (Reps.one rx)
          · obtain ⟨rfl, hm⟩ := w6
            exact ⟨S5, rfl, l6, R6, hm, r6⟩
        · obtain ⟨v5, H5, J5, rv5, S5, rfl, l6, R6, m6, r6⟩ := hq5
          exact ⟨S5, v5, l6, R6, m6, J5, r6, rv5⟩
      · have : QM (.lst (rows.mergeSort (PySem.W.sortLe itemOrd false key))) S'.μ := by rw [m5]; exact hqm
        exact hqq S' _ _ ((l1.trans l2).trans l5) R5 r5 this
    · cases hf
  · cases hf
end
end M
end

section
set_option Elab.async false
set_option linter.all false
set_option maxRecDepth 100000
set_option maxHeartbeats 4000000
set_option autoImplicit false
/-! M: lists that are made new and changed later; len of a dict. -/
namespace M
open PySem PySem.Spec PyProof.Rows L2
section
variable {B : Bs} {T : List Addr} {cls : Nat → Addr} {k : Nat} {cd : Prop} {X : Cx} {Wx : WX}
/-- a[:hi], a list that is changed later -/
def fSlM : XF := fun _ _ _ e => match e with
  | .Subscript a (.Slice none (some hi) none _) _ => if isStar a = false ∧ isStar hi = false then some [a, hi] else none
  | _ => none
def eSlM : EvE := fun _ ds μ Q _ => match ds with
  | [d, .int h] => match asL d μ with
    | some xs => Q (.obj μ.next) (μ.new (.lst (cutD xs none (some h))))
    | none => False
  | _ => False
def RSdM (W : Wd) : V → Option Int → Option Int → Hp → VK → Prop := fun x lo hi H Q => ∃ S d h QM, S.H = H ∧ Rl W S ∧ Rep W.K S.vw d x ∧ lo = none ∧ hi = some h ∧ eSlM [] [d, .int h] S.μ QM (fun _ _ => False) ∧ After W S QM Q
theorem slM_ok : SlR X (RSdM (wd X T cls)) := by
  intro pins s σ _ x v vl vu lo hi sl Q I rx hs pl pu h0
  obtain ⟨S, dx, h, QM, rfl, R, hx, rfl, rfl, hb, hq⟩ := h0
  unfold eSlM at hb
  dsimp only at hb
  split at hb
  · rename_i ds e
    obtain ⟨a, vs, e1, g1, q1⟩ := asL_rep R hx e
    exact sl_list pins s σ _ x v vl vu _ _ sl Q I rx hs pl pu ⟨a, vs, e1, g1, new_lst R (reps_cut q1) hb hq⟩
  · exact hb.elim
theorem n_slM : NodOk B T cls k cd fSlM eSlM := by
  intro X top Wx e es as S hf hp
  unfold fSlM at hf
  split at hf
  · rename_i a hi p2 pos
    split at hf
    · rename_i hst
      cases hf
      obtain ⟨ca, cb, rfl, _, ha, _, hb⟩ := hp.two
      refine PE.weak (pe_slice (slM_ok (T := T) (cls := cls)) ha po_none (po_some hb)) fun σ H Q h => ?_
      obtain ⟨S0, δ, QM, QX, rfl, R, hE, hw, hq, hx⟩ := h
      simp only [wpE, wpA] at hw
      refine ⟨S0, δ, _, QX, rfl, R, hE, hw, fun S1 d1 v1 l1 R1 r1 w1 => ⟨S1, δ, _, QX, rfl, R1, hE.mono l1.1, w1, fun S2 d2 v2 l2 R2 r2 w2 => ?_, hx.le l1⟩, hx⟩
      have w3 := w2
      dsimp only [eSlM] at w2
      split at w2
      · rename_i z h hz
        cases hz
        obtain rfl : v2 = V.int h := r2
        exact ⟨h, rfl, S2, d1, h, QM, rfl, R2, r1.mono l2.1, rfl, rfl, w3, hq.le (l1.trans l2)⟩
      · exact w2.elim
    · cases hf
  · cases hf
/-- a + b, lists, the sum changed later -/
def fAddM : XF := fun _ _ _ e => match e with
  | .BinOp a .Add b _ => if isStar a = false ∧ isStar b = false then some [a, b] else none
  | _ => none
def eAddM : EvE := fun _ ds μ Q _ => match ds with
  | [x, y] => match asLM x μ, asLM y μ with
    | some xs, some ys => xs.length + ys.length ≤ sizeLine ∧ Q (.obj μ.next) (μ.new (.lst (xs ++ ys)))
    | _, _ => False
  | _ => False
def R2m (W : Wd) : R2 := fun x y H Q => ∃ S dx dy QM, S.H = H ∧ Rl W S ∧ Rep W.K S.vw dx x ∧ Rep W.K S.vw dy y ∧ eAddM [] [dx, dy] S.μ QM (fun _ _ => False) ∧ After W S QM Q
theorem addM_ok : OpR X (binaryOp .Add) (R2m (wd X T cls)) := by
  intro pins s σ _ x y v u Q I rx ry h0
  obtain ⟨S, dx, dy, QM, rfl, R, hx, hy, hb, hq⟩ := h0
  unfold eAddM at hb
  dsimp only at hb
  split at hb
  · rename_i xs ys e1 e2
    obtain ⟨a, vx, r1, g1, q1⟩ := asLM_rep R hx e1
    obtain ⟨b, vy, r2, g2, q2⟩ := asLM_rep R hy e2
    exact op_cat pins s σ _ x y v u Q I rx ry ⟨a, b, vx, vy, r1, r2, g1, g2, by rw [q1.length, q2.length]; exact hb.1, new_lst R (q1.append q2) hb.2 hq⟩
  · exact hb.elim
theorem n_addM : NodOk B T cls k cd fAddM eAddM := by
  intro X top Wx e es as S hf hp
  unfold fAddM at hf
  split at hf
  · rename_i a b pos
    split at hf
    · rename_i hst
      cases hf
      obtain ⟨ca, cb, rfl, _, ha, _, hb⟩ := hp.two
      refine PE.weak (pe_op (addM_ok (T := T) (cls := cls)) ha hb) fun σ H Q h => ?_
      obtain ⟨S0, δ, QM, QX, rfl, R, hE, hw, hq, hx⟩ := h
      simp only [wpE, wpA] at hw
      exact ⟨S0, δ, _, QX, rfl, R, hE, hw, fun S1 d1 v1 l1 R1 r1 w1 => ⟨S1, δ, _, QX, rfl, R1, hE.mono l1.1, w1, fun S2 d2 v2 l2 R2 r2 w2 => ⟨S2, d1, d2, QM, rfl, R2, r1.mono l2.1, r2, w2, hq.le (l1.trans l2)⟩, hx.le l1⟩, hx⟩
    · cases hf
  · cases hf
/-- len of a dict -/
def spLenD : Spec := fun ds μ Q _ => match ds with
  | [d] => match asKM d μ with
    | some kvs => Q (.int kvs.length) μ
    | none => False
  | _ => False
theorem c_lenD (hm : B.mg "len" = none) : CalC B T cls k "len" spLenD := by
  refine c_bi hm (by decide) (by decide) (show bootBuiltins "len" = some (.builtin "len") by decide +kernel) (.inl ⟨_, rfl⟩) (fun _ _ _ _ h => h) fun X hB hc hr pins s σ S us vs ds QM Q I r R rr hw hq => ?_
  unfold spLenD at hw
  split at hw
  · rename_i d
    split at hw
    · rename_i kvs e
      obtain ⟨x, rfl, q1⟩ := Reps.inv1 rr
      obtain ⟨j, rfl, hc2⟩ := asKM_eq e
      obtain ⟨es, e1, re⟩ := R.ok _ _ hc2
      refine call_lenD pins s σ S.H _ us Q I r ⟨_, es, by rw [show x = V.ref (S.ρ j) from q1.2], e1, ?_⟩
      rw [repP_length re]
      exact hq S (.int _) _ (.refl _) R rfl hw
    · exact hw.elim
  · exact hw.elim
/-- tuple(sorted(..)), min and max of two numbers -/
def spMin : Spec := fun ds μ Q _ => match ds with
  | [.int i, .int j] => Q (.int (min i j)) μ
  | _ => False
end
end M
end

section
set_option Elab.async false
set_option linter.all false
set_option maxRecDepth 100000
set_option maxHeartbeats 4000000
set_option autoImplicit false
/-! what the defs of the program's values and statements do, over code points. -/
namespace M
open PySem PySem.Spec PyProof.Rows L2
open SX (S S_len S_cat)
def lettersL : List Nat := ("abcdefghijklmnopqrstuvwxyz" : Str).cps.toList
def digitsL : List Nat := ("0123456789" : Str).cps.toList
def signsL : List Nat := (" !\"#$&'()*+,-./0123456789:;<=>?@ABCDEFGHIJKLMNOPQRSTUVWXYZ[\\]^_`abcdefghijklmnopqrstuvwxyz{|}~" : Str).cps.toList
def isName (l : List Nat) : Bool := decide (1 ≤ l.length) && decide (l.length ≤ 8) && l.all fun c => decide (c ∈ lettersL)
def isStrg (l : List Nat) : Bool := decide (l.length ≤ 200) && l.all fun c => decide (c ∈ signsL)
def isText (l : List Nat) : Bool := isStrg l && decide (l.length ≤ 40) && !decide (39 ∈ l)
/-- a text's length that len() takes -/
def small (l : List Nat) : Prop := l.length ≤ sizeLine
def spB (f : List Nat → Bool) : Spec := fun ds μ Q _ => match ds with
  | [.str x] => x.length ≤ sizeLine ∧ Q (.bl (f x.cps.toList)) μ
  | [d] => (tyName d μ).isSome = true ∧ Q (.bl false) μ
  | _ => False
def sp_is_name : Spec := spB isName
def sp_is_string : Spec := spB isStrg
def sp_is_text : Spec := spB isText
/-! parts -/
def fp : List Nat → List Nat
  | [] => []
  | c :: r => if c = 39 then (if 39 ∈ r then 39 :: (r.takeWhile (fun x => decide (x ≠ 39)) ++ [39]) else []) else (c :: r).takeWhile fun x => decide (x ≠ 32)
def sp_first_part : Spec := fun ds μ Q _ => match ds with
  | [.str x] => x.length + 2 ≤ sizeLine ∧ Q (.str (S (fp x.cps.toList))) μ
  | _ => False
def prs : Nat → List (List Nat) → List Nat → Option (List (List Nat))
  | 0, _, _ => none
  | _ + 1, acc, [] => some acc
  | n + 1, acc, c :: r => if c ≠ 32 ∨ fp r = [] then none else prs n (acc ++ [fp r]) (r.drop (fp r).length)
def partsOf (l : List Nat) : Option (List (List Nat)) := prs (l.length + 2) [] (32 :: l)
def strD (l : List Nat) : D := .str (S l)
def optL (o : Option (List (List Nat))) : D := match o with
  | none => .non
  | some ls => .lst (ls.map strD)
def sp_parts_of : Spec := fun ds μ Q _ => match ds with
  | [.str x] => x.length + 4 ≤ sizeLine ∧ Q (optL (partsOf x.cps.toList)) μ
  | _ => False
/-! terms -/
def digs (l : List Nat) : List Nat := if l.take 1 = [45] then l.drop 1 else l
def numOf (l : List Nat) : Option Int :=
  if ¬ (1 ≤ (digs l).length ∧ (digs l).length ≤ 10) ∨ ((digs l).all fun c => decide (c ∈ digitsL)) = false then none
  else if (digs l).head? = some 48 ∧ l ≠ [48] then none
  else
    let n : Int := (NumText.digitsVal (digs l) : Nat)
    let m : Int := if l.take 1 = [45] then -n else n
    if -2147483648 ≤ m ∧ m ≤ 2147483647 then some m else none
def optI (o : Option Int) : D := match o with
  | none => .non
  | some i => .int i
def sp_number_of : Spec := fun ds μ Q _ => match ds with
  | [.str x] => x.length ≤ sizeLine ∧ Q (optI (numOf x.cps.toList)) μ
  | _ => False
def parD (n : Int) : D := .tup [.str "parameter", .int n]
def txtD (l : List Nat) : D := .tup [.str "text", .str (S l)]
def termOf (l : List Nat) : D :=
  if l.take 1 = [39] then (if l.length > 1 ∧ l.getLast? = some 39 ∧ isText (l.drop 1).dropLast = true then txtD (l.drop 1).dropLast else .non)
  else if l.take 1 = [36] then (match l with
    | [_, c] => if c ∈ [49, 50, 51, 52] then parD ((c - 48 : Nat) : Int) else .non
    | _ => .non)
  else optI (numOf l)
def sp_term_of : Spec := fun ds μ Q _ => match ds with
  | [.str x] => x.length ≤ sizeLine ∧ Q (termOf x.cps.toList) μ
  | _ => False
/-! parameters: of items that are texts, numbers, pairs -/
def parN (d : D) : Option Int := match d with
  | .tup [.str k, .int n] => if k = "parameter" then some n else none
  | .lst [.str k, .int n] => if k = "parameter" then some n else none
  | _ => none
/-- an item of a statement -/
def isItem (d : D) : Bool := match d with
  | .str _ | .int _ => true
  | .tup [.str _, .int _] | .tup [.str _, .str _] => true
  | .lst [.str _, .int _] | .lst [.str _, .str _] => true
  | _ => false
/-- no text item of a pair says parameter -/
def okItem (d : D) : Bool := match d with
  | .str _ | .int _ => true
  | .tup [.str _, .int _] | .lst [.str _, .int _] => true
  | .tup [.str k, .str _] | .lst [.str k, .str _] => decide (k ≠ "parameter")
  | _ => false
def parNs (ds : List D) : List Int := ds.filterMap parN
def sp_parameter_numbers : Spec := fun ds μ Q _ => match ds with
  | [d] => ∃ xs, asSeq d μ = some xs ∧ xs.length < sizeLine ∧ xs.all okItem = true ∧ Q (.lst ((parNs xs).map .int)) μ
  | _ => False
def sp_parameters : Spec := fun ds μ Q _ => match ds with
  | [d] => ∃ xs, asSeq d μ = some xs ∧ xs.length < sizeLine ∧ xs.all okItem = true ∧ Q (.int (maxI 0 (parNs xs))) μ
  | _ => False
/-! statements -/
def tbl_FORMS : List (Str × D) := [("create", .tup [.int 1]), ("drop", .tup [.int 1]), ("put", .tup [.int 3]), ("delete", .tup [.int 2]), ("get", .tup [.int 2]), ("scan", .tup [.int 1, .int 3]), ("total", .tup [.int 1]), ("begin", .tup [.int 0]), ("commit", .tup [.int 0]), ("rollback", .tup [.int 0]), ("save", .tup [.int 1]), ("undo", .tup [.int 1])]
def formOk (l : List Nat) (n : Nat) : Bool := match tbl_FORMS.lookup (S l) with
  | some (.tup ds) => ds.any fun d => match d with
    | .int i => decide (i = (n : Int))
    | _ => false
  | _ => false
def headOk (ps : List (List Nat)) : Bool := match ps with
  | [] => false
  | [w] => formOk w 0
  | w :: n :: r => formOk w (r.length + 1) && isName n
def stmtOf (ps : List (List Nat)) : Option (List D) :=
  if headOk ps = false then none
  else if ((ps.drop 2).map termOf).any isNonD = true then none
  else
    let r := (ps.take 2).map strD ++ (ps.drop 2).map termOf
    if ((intsD 1 (maxI 0 (parNs r)).toNat).all fun e => ((parNs r).map .int).any fun y => deq y e) = true then some r else none
def readS (l : List Nat) : Option (List D) := if isStrg l = true then (partsOf l).bind stmtOf else none
def optT (o : Option (List D)) : D := match o with
  | none => .non
  | some ds => .tup ds
def sp_read_statement : Spec := fun ds μ Q _ => match ds with
  | [.str x] => x.length + 8 ≤ sizeLine ∧ Q (optT (readS x.cps.toList)) μ
  | _ => False
def x_EndError : Nat := 0
def x_Unreadable : Nat := 1
def sp_parse_statement : Spec := fun ds μ Q X => match ds with
  | [.str x] => x.length + 8 ≤ sizeLine ∧ match readS x.cps.toList with
    | some ds => Q (.tup ds) μ
    | none => X x_Unreadable μ
  | _ => False
end M
end

section
set_option Elab.async false
set_option linter.all false
set_option maxRecDepth 100000
set_option maxHeartbeats 4000000
set_option autoImplicit false
namespace M
open PySem PySem.Spec PyProof.Rows L2
def N_is_name : List Str := ["value"]
def c_is_name : IR := .seq (.ifS (.tOr (.tNot (.tV (.cal "isinstance" spIsi (.cons (.var 0) (.cons (.bty "str") .nil))))) (.tOne (.tNot (.chn .LtE .LtE (.con (.int 1)) (.cal "len" spLen (.cons (.var 0) .nil)) (.glb "LONGEST_NAME" (.int 8)))))) (.seq (.ret (.con (.bl false))) (.nil)) (.nil)) (.seq (.ret (.nod (fAllS "LETTERS") (eAllS "abcdefghijklmnopqrstuvwxyz") (.cons (.var 0) .nil))) (.nil))
def N_is_string : List Str := ["value"]
def c_is_string : IR := .seq (.ret (.andV (.cal "isinstance" spIsi (.cons (.var 0) (.cons (.bty "str") .nil))) (.andV (.cmp .LtE (.cal "len" spLen (.cons (.var 0) .nil)) (.glb "LONGEST_STRING" (.int 200))) (.one (.nod (fAllS "SIGNS") (eAllS " !\"#$&'()*+,-./0123456789:;<=>?@ABCDEFGHIJKLMNOPQRSTUVWXYZ[\\]^_`abcdefghijklmnopqrstuvwxyz{|}~") (.cons (.var 0) .nil)))))) (.nil)
def N_is_text : List Str := ["value"]
def c_is_text : IR := .seq (.ret (.andV (.cal "is_string" sp_is_string (.cons (.var 0) .nil)) (.andV (.cmp .LtE (.cal "len" spLen (.cons (.var 0) .nil)) (.glb "LONGEST_TEXT" (.int 40))) (.one (.cmp .NotIn (.con (.str "'")) (.var 0)))))) (.nil)
def N_first_part : List Str := ["string", "end"]
def c_first_part : IR := .seq (.ifS (.cmp .NotEq (.sl (.var 0) (.nop) (.con (.int 1))) (.con (.str "'"))) (.seq (.ret (.ix (.bme "str" "str.split" "split" spSplit (.var 0) (.cons (.con (.str " ")) .nil)) (.con (.int 0)))) (.nil)) (.nil)) (.seq (.asg (.gN 1) (.bme "str" "str.find" "find" spFind (.var 0) (.cons (.con (.str "'")) (.cons (.con (.int 1)) .nil)))) (.seq (.ret (.sl (.var 0) (.nop) (.bin .Add (.var 1) (.con (.int 1))))) (.nil)))
def N_parts_of : List Str := ["string", "parts", "rest", "part"]
def t1_parts_of : IR := .cmp .NotEq (.var 2) (.con (.str ""))
def b1_parts_of : IR := .seq (.asg (.gN 3) (.cal "first_part" sp_first_part (.cons (.sl (.var 2) (.con (.int 1)) (.nop)) .nil))) (.seq (.ifS (.tOr (.cmp .NotEq (.ix (.var 2) (.con (.int 0))) (.con (.str " "))) (.tOne (.cmp .Eq (.var 3) (.con (.str ""))))) (.seq (.ret (.con (.non))) (.nil)) (.nil)) (.seq (.exp (.bme "list" "list.append" "append" spApp (.var 1) (.cons (.var 3) .nil))) (.seq (.asg (.gN 2) (.sl (.var 2) (.bin .Add (.con (.int 1)) (.cal "len" spLen (.cons (.var 3) .nil))) (.nop))) (.nil))))
def c_parts_of : IR := .seq (.asg (.gN 1) (.lstM (.nil))) (.seq (.asg (.gN 2) (.bin .Add (.con (.str " ")) (.var 0))) (.seq (.whl t1_parts_of b1_parts_of) (.seq (.ret (.frz (.var 1))) (.nil))))
def N_number_of : List Str := ["part", "digits", "number"]
def c_number_of : IR := .seq (.asg (.gN 1) (.ife (.cmp .Eq (.sl (.var 0) (.nop) (.con (.int 1))) (.con (.str "-"))) (.sl (.var 0) (.con (.int 1)) (.nop)) (.var 0))) (.seq (.ifS (.tOr (.tNot (.chn .LtE .LtE (.con (.int 1)) (.cal "len" spLen (.cons (.var 1) .nil)) (.con (.int 10)))) (.tOne (.tNot (.tV (.nod (fAllS "DIGITS") (eAllS "0123456789") (.cons (.var 1) .nil)))))) (.seq (.ret (.con (.non))) (.nil)) (.nil)) (.seq (.ifS (.tAnd (.cmp .Eq (.ix (.var 1) (.con (.int 0))) (.con (.str "0"))) (.tOne (.cmp .NotEq (.var 0) (.con (.str "0"))))) (.seq (.ret (.con (.non))) (.nil)) (.nil)) (.seq (.asg (.gN 2) (.cal "int" spInt (.cons (.var 1) .nil))) (.seq (.ifS (.cmp .Eq (.sl (.var 0) (.nop) (.con (.int 1))) (.con (.str "-"))) (.seq (.asg (.gN 2) (.neg (.var 2))) (.nil)) (.nil)) (.seq (.ret (.ife (.chn .LtE .LtE (.glb "LEAST" (.int (-2147483648))) (.var 2) (.glb "GREATEST" (.int 2147483647))) (.var 2) (.con (.non)))) (.nil))))))
def N_term_of : List Str := ["part", "text"]
def c_term_of : IR := .seq (.ifS (.cmp .Eq (.sl (.var 0) (.nop) (.con (.int 1))) (.con (.str "'"))) (.seq (.asg (.gN 1) (.sl (.var 0) (.con (.int 1)) (.neg (.con (.int 1))))) (.seq (.ret (.ife (.tAnd (.cmp .Gt (.cal "len" spLen (.cons (.var 0) .nil)) (.con (.int 1))) (.tAnd (.cmp .Eq (.ix (.var 0) (.neg (.con (.int 1)))) (.con (.str "'"))) (.tOne (.tV (.cal "is_text" sp_is_text (.cons (.var 1) .nil)))))) (.tupC (.cons (.con (.str "text")) (.cons (.var 1) .nil))) (.con (.non)))) (.nil))) (.nil)) (.seq (.ifS (.cmp .Eq (.sl (.var 0) (.nop) (.con (.int 1))) (.con (.str "$"))) (.seq (.ifS (.tOr (.cmp .NotEq (.cal "len" spLen (.cons (.var 0) .nil)) (.con (.int 2))) (.tOne (.cmp .NotIn (.ix (.var 0) (.con (.int 1))) (.sl (.glb "DIGITS" (.str "0123456789")) (.con (.int 1)) (.bin .Add (.glb "MOST_PARAMETERS" (.int 4)) (.con (.int 1))))))) (.seq (.ret (.con (.non))) (.nil)) (.nil)) (.seq (.ret (.tupC (.cons (.con (.str "parameter")) (.cons (.cal "int" spInt (.cons (.ix (.var 0) (.con (.int 1))) .nil)) .nil)))) (.nil))) (.nil)) (.seq (.ret (.cal "number_of" sp_number_of (.cons (.var 0) .nil))) (.nil)))
def N_parameter_numbers : List Str := ["parts", "part"]
def c_parameter_numbers : IR := .seq (.ret (.cpr [("part", 1)] (.gN 1) (.itV (.var 0)) (.tAnd (.tV (.cal "isinstance" spIsi (.cons (.var 1) (.cons (.tupC (.cons (.bty "tuple") (.cons (.bty "list") .nil))) .nil)))) (.tOne (.cmp .Eq (.ix (.var 1) (.con (.int 0))) (.con (.str "parameter"))))) (.ix (.var 1) (.con (.int 1))))) (.nil)
def N_parameters : List Str := ["parts"]
def c_parameters : IR := .seq (.ret (.nod (fMaxD 0) (eMaxD 0) (.cons (.cal "parameter_numbers" sp_parameter_numbers (.cons (.var 0) .nil)) .nil))) (.nil)
def N_read_statement : List Str := ["string", "parts", "terms", "result", "numbers", "part"]
def c_read_statement : IR := .seq (.asg (.gN 1) (.con (.non))) (.seq (.ifS (.tV (.cal "is_string" sp_is_string (.cons (.var 0) .nil))) (.seq (.asg (.gN 1) (.cal "parts_of" sp_parts_of (.cons (.var 0) .nil))) (.nil)) (.nil)) (.seq (.ifS (.tOr (.cmp .Is (.var 1) (.con (.non))) (.tOr (.tnd (fGin true "FORMS") (eGinT true tbl_FORMS) (.cons (.ix (.var 1) (.con (.int 0))) .nil)) (.tOne (.cmp .NotIn (.bin .Sub (.cal "len" spLen (.cons (.var 1) .nil)) (.con (.int 1))) (.nod (fGix "FORMS") (eGix tbl_FORMS) (.cons (.ix (.var 1) (.con (.int 0))) .nil)))))) (.seq (.ret (.con (.non))) (.nil)) (.nil)) (.seq (.ifS (.tAnd (.cmp .Gt (.cal "len" spLen (.cons (.var 1) .nil)) (.con (.int 1))) (.tOne (.tNot (.tV (.cal "is_name" sp_is_name (.cons (.ix (.var 1) (.con (.int 1))) .nil)))))) (.seq (.ret (.con (.non))) (.nil)) (.nil)) (.seq (.asc 2 (.cpr [("part", 5)] (.gN 5) (.itV (.sl (.var 1) (.con (.int 2)) (.nop))) (.nop) (.cal "term_of" sp_term_of (.cons (.var 5) .nil)))) (.seq (.ifS (.cmp .In (.con (.non)) (.var 2)) (.seq (.ret (.con (.non))) (.nil)) (.nil)) (.seq (.asg (.gN 3) (.cal "tuple" spTup (.cons (.bin .Add (.sl (.var 1) (.nop) (.con (.int 2))) (.var 2)) .nil))) (.seq (.asg (.gN 4) (.cal "parameter_numbers" sp_parameter_numbers (.cons (.var 3) .nil))) (.seq (.ifS (.tNot (.tV (.nod (fAllN 4) (eAllN 4) (.cons (.con (.int 1)) (.cons (.bin .Add (.cal "parameters" sp_parameters (.cons (.var 3) .nil)) (.con (.int 1))) .nil))))) (.seq (.ret (.con (.non))) (.nil)) (.nil)) (.seq (.ret (.var 3)) (.nil))))))))))
def N_parse_statement : List Str := ["string", "parts"]
def c_parse_statement : IR := .seq (.asg (.gN 1) (.cal "read_statement" sp_read_statement (.cons (.var 0) .nil))) (.seq (.ifS (.cmp .Is (.var 1) (.con (.non))) (.seq (.sno (fRse "Unreadable") (eRse x_Unreadable) .nil) (.nil)) (.nil)) (.seq (.ret (.var 1)) (.nil)))
end M
end

section
set_option Elab.async false
set_option linter.all false
set_option maxRecDepth 100000
set_option maxHeartbeats 4000000
set_option autoImplicit false
namespace M
open PySem PySem.Spec PyProof.Rows L2
open SX (S S_len S_cat)
/-- a term's want, unfolded -/
theorem objB_str {n : Nat} {x : Str} : objB n (.str x) = true := rfl
theorem objB_bl {n : Nat} {x : Bool} : objB n (.bl x) = true := rfl
theorem objB_int {n : Nat} {x : Int} : objB n (.int x) = true := rfl
theorem objB_non {n : Nat} : objB n .non = true := rfl
theorem tyName_isSome {d : D} {μ : Sto} (h : (tyName d μ).isSome = true) : ∃ a, tyName d μ = some a := Option.isSome_iff_exists.mp h
theorem tyName_str {d : D} {μ : Sto} (h : tyName d μ = some "str") : ∃ x, d = .str x := by
  unfold tyName at h
  split at h <;> first | (exact ⟨_, rfl⟩) | (simp at h; done) | skip
  split at h <;> simp at h
theorem w_is_name : ∀ ds μ Q QX, μ.wf → objBs μ.next ds = true → sp_is_name ds μ Q QX → ds.length = 1 ∧ wpS c_is_name (startE N_is_name ds) μ (outs μ.next Q QX) := by
  intro ds μ Q QX hw ho h
  unfold sp_is_name spB at h
  split at h
  · rename_i s
    obtain ⟨l, rfl⟩ := of_S s
    obtain ⟨h1, h2⟩ := h
    refine ⟨rfl, ?_⟩
    rw [S_cps] at h2
    have hq : finP μ.next Q (.bl (isName l)) μ := fin_same hw rfl h2
    simp [startE, wpS, wpT, wpE, wpA, wpI, wpG, wpGs, wpOpt, spLen, spIsi, spInt, spStr, spTup, spLst, spMax, spApp, spFind, spSplit, spJoin, spDget, tn_str, tn_int, tn_bl, tn_non, tn_tup, tn_lst, tn_scr, td_str, td_lst, isB, tys, truD, cmpD, binD, slD, ixD, outs, eAllS, eAllN, eMaxD, eGin, eGinT, eGix, eRse, eCal0, drf, sq_tup, sq_lst, sq_scr, sq_str, sq_int, sq_non, l_lst, l_scr, l_tup, lm_lst, lm_str, lm_int, lm_tup, lm_non, lm_bl, eqOk_str, eqOk_int, eqOk_non, deq_int, deq_str, two_le, isNonD, tysOf, c_is_name, N_is_name]
    refine ⟨by simpa using h1, ?_⟩
    rw [S_len] at *
    unfold isName at hq
    split
    · split
      · rename_i a b
        rw [show (decide (1 ≤ l.length) && decide (l.length ≤ 8) && l.all fun c => decide (c ∈ lettersL)) = false by simp; omega] at hq
        exact hq
      · rename_i a b
        rw [show (decide (1 ≤ l.length) && decide (l.length ≤ 8)) = true by simp; omega, Bool.true_and] at hq
        simpa [lettersL] using hq
    · rename_i a
      rw [show (decide (1 ≤ l.length) && decide (l.length ≤ 8) && l.all fun c => decide (c ∈ lettersL)) = false by simp; omega] at hq
      exact hq
  · rename_i d hd
    obtain ⟨h1, h2⟩ := h
    refine ⟨rfl, ?_⟩
    obtain ⟨a, ha⟩ := tyName_isSome h1
    have hne : a ≠ "str" := fun z => by
      subst z
      obtain ⟨x, rfl⟩ := tyName_str ha
      exact hd x rfl
    have hq : finP μ.next Q (.bl false) μ := fin_same hw rfl h2
    simp [startE, wpS, wpT, wpE, wpA, wpI, wpG, wpGs, wpOpt, spLen, spIsi, spInt, spStr, spTup, spLst, spMax, spApp, spFind, spSplit, spJoin, spDget, tn_str, tn_int, tn_bl, tn_non, tn_tup, tn_lst, tn_scr, td_str, td_lst, isB, tys, truD, cmpD, binD, slD, ixD, outs, eAllS, eAllN, eMaxD, eGin, eGinT, eGix, eRse, eCal0, drf, sq_tup, sq_lst, sq_scr, sq_str, sq_int, sq_non, l_lst, l_scr, l_tup, lm_lst, lm_str, lm_int, lm_tup, lm_non, lm_bl, eqOk_str, eqOk_int, eqOk_non, deq_int, deq_str, two_le, isNonD, tysOf, c_is_name, N_is_name, ha, hne, hq]
  · exact h.elim
end M
end

section
set_option Elab.async false
set_option linter.all false
set_option maxRecDepth 100000
set_option maxHeartbeats 4000000
set_option autoImplicit false
namespace M
open PySem PySem.Spec PyProof.Rows L2
open SX (S S_len S_cat)
theorem w_is_string : ∀ ds μ Q QX, μ.wf → objBs μ.next ds = true → sp_is_string ds μ Q QX → ds.length = 1 ∧ wpS c_is_string (startE N_is_string ds) μ (outs μ.next Q QX) := by
  intro ds μ Q QX hw ho h
  unfold sp_is_string spB at h
  split at h
  · rename_i s
    obtain ⟨l, rfl⟩ := of_S s
    obtain ⟨h1, h2⟩ := h
    refine ⟨rfl, ?_⟩
    rw [S_cps] at h2
    have hq : finP μ.next Q (.bl (isStrg l)) μ := fin_same hw rfl h2
    rw [S_len] at h1
    unfold isStrg at hq
    simp [startE, wpS, wpT, wpE, wpA, wpI, wpG, wpGs, wpOpt, spLen, spIsi, spInt, spStr, spTup, spLst, spMax, spApp, spFind, spSplit, spJoin, spDget, tn_str, tn_int, tn_bl, tn_non, tn_tup, tn_lst, tn_scr, td_str, td_lst, isB, tys, truD, cmpD, binD, slD, ixD, outs, eAllS, eAllN, eMaxD, eGin, eGinT, eGix, eRse, eCal0, drf, sq_tup, sq_lst, sq_scr, sq_str, sq_int, sq_non, l_lst, l_scr, l_tup, lm_lst, lm_str, lm_int, lm_tup, lm_non, lm_bl, eqOk_str, eqOk_int, eqOk_non, deq_int, deq_str, two_le, isNonD, tysOf, c_is_string, N_is_string, S_len, h1]
    by_cases h3 : l.length ≤ 200
    · rw [if_pos (by omega)]
      simpa [h3, signsL] using hq
    · rw [if_neg (by omega)]
      simpa [h3] using hq
  · rename_i d hd
    obtain ⟨h1, h2⟩ := h
    refine ⟨rfl, ?_⟩
    obtain ⟨a, ha⟩ := tyName_isSome h1
    have hne : a ≠ "str" := fun z => by
      subst z
      obtain ⟨x, rfl⟩ := tyName_str ha
      exact hd x rfl
    have hq : finP μ.next Q (.bl false) μ := fin_same hw rfl h2
    simp [startE, wpS, wpT, wpE, wpA, wpI, wpG, wpGs, wpOpt, spLen, spIsi, spInt, spStr, spTup, spLst, spMax, spApp, spFind, spSplit, spJoin, spDget, tn_str, tn_int, tn_bl, tn_non, tn_tup, tn_lst, tn_scr, td_str, td_lst, isB, tys, truD, cmpD, binD, slD, ixD, outs, eAllS, eAllN, eMaxD, eGin, eGinT, eGix, eRse, eCal0, drf, sq_tup, sq_lst, sq_scr, sq_str, sq_int, sq_non, l_lst, l_scr, l_tup, lm_lst, lm_str, lm_int, lm_tup, lm_non, lm_bl, eqOk_str, eqOk_int, eqOk_non, deq_int, deq_str, two_le, isNonD, tysOf, c_is_string, N_is_string, ha, hne, hq]
  · exact h.elim
theorem w_is_text : ∀ ds μ Q QX, μ.wf → objBs μ.next ds = true → sp_is_text ds μ Q QX → ds.length = 1 ∧ wpS c_is_text (startE N_is_text ds) μ (outs μ.next Q QX) := by
  intro ds μ Q QX hw ho h
  unfold sp_is_text spB at h
  split at h
  · rename_i s
    obtain ⟨l, rfl⟩ := of_S s
    obtain ⟨h1, h2⟩ := h
    refine ⟨rfl, ?_⟩
    rw [S_cps] at h2
    have hq : finP μ.next Q (.bl (isText l)) μ := fin_same hw rfl h2
    rw [S_len] at h1
    unfold isText at hq
    simp [startE, wpS, wpT, wpE, wpA, wpI, wpG, wpGs, wpOpt, spLen, spIsi, spInt, spStr, spTup, spLst, spMax, spApp, spFind, spSplit, spJoin, spDget, tn_str, tn_int, tn_bl, tn_non, tn_tup, tn_lst, tn_scr, td_str, td_lst, isB, tys, truD, cmpD, binD, slD, ixD, outs, eAllS, eAllN, eMaxD, eGin, eGinT, eGix, eRse, eCal0, drf, sq_tup, sq_lst, sq_scr, sq_str, sq_int, sq_non, l_lst, l_scr, l_tup, lm_lst, lm_str, lm_int, lm_tup, lm_non, lm_bl, eqOk_str, eqOk_int, eqOk_non, deq_int, deq_str, two_le, isNonD, tysOf, c_is_text, N_is_text, S_len, h1, sp_is_string, spB, S_cps]
    by_cases h4 : isStrg l = true
    · rw [if_pos h4]
      by_cases h3 : l.length ≤ 40
      · rw [if_pos (by omega)]
        rw [h4] at hq
        simp only [h3, decide_true, Bool.true_and] at hq
        exact hq
      · rw [if_neg (by omega)]
        simpa [h3] using hq
    · rw [if_neg h4]
      rw [Bool.not_eq_true] at h4
      simpa [h4] using hq
  · rename_i d hd
    obtain ⟨h1, h2⟩ := h
    refine ⟨rfl, ?_⟩
    have hq : finP μ.next Q (.bl false) μ := fin_same hw rfl h2
    simp [startE, wpS, wpT, wpE, wpA, wpI, wpG, wpGs, wpOpt, spLen, spIsi, spInt, spStr, spTup, spLst, spMax, spApp, spFind, spSplit, spJoin, spDget, tn_str, tn_int, tn_bl, tn_non, tn_tup, tn_lst, tn_scr, td_str, td_lst, isB, tys, truD, cmpD, binD, slD, ixD, outs, eAllS, eAllN, eMaxD, eGin, eGinT, eGix, eRse, eCal0, drf, sq_tup, sq_lst, sq_scr, sq_str, sq_int, sq_non, l_lst, l_scr, l_tup, lm_lst, lm_str, lm_int, lm_tup, lm_non, lm_bl, eqOk_str, eqOk_int, eqOk_non, deq_int, deq_str, two_le, isNonD, tysOf, c_is_text, N_is_text]
    unfold sp_is_string spB
    split
    · rename_i x hx
      cases hx
      exact (hd x rfl).elim
    · rename_i d' hx
      cases hx
      simp [h1, hq]
    · rename_i h3 h4
      exact (h4 d rfl).elim
  · exact h.elim
theorem w_parameter_numbers : ∀ ds μ Q QX, μ.wf → objBs μ.next ds = true → sp_parameter_numbers ds μ Q QX → ds.length = 1 ∧ wpS c_parameter_numbers (startE N_parameter_numbers ds) μ (outs μ.next Q QX) := by
  intro ds μ Q QX hw ho h
  unfold sp_parameter_numbers at h
  split at h
  · rename_i d
    refine ⟨rfl, ?_⟩
    obtain ⟨xs, h1, h2, h3, h4⟩ := h
    have hq : finP μ.next Q (.lst ((parNs xs).map .int)) μ := fin_same hw (by
      show objBs μ.next ((parNs xs).map .int) = true
      generalize parNs xs = ns
      induction ns with
      | nil => rfl
      | cons n ns ih => exact ih) h4
    simp [startE, wpS, wpT, wpE, wpA, wpI, wpG, wpGs, wpOpt, spLen, spIsi, spInt, spStr, spTup, spLst, spMax, spApp, spFind, spSplit, spJoin, spDget, tn_str, tn_int, tn_bl, tn_non, tn_tup, tn_lst, tn_scr, td_str, td_lst, isB, tys, truD, cmpD, binD, slD, ixD, outs, eAllS, eAllN, eMaxD, eGin, eGinT, eGix, eRse, eCal0, drf, sq_tup, sq_lst, sq_scr, sq_str, sq_int, sq_non, l_lst, l_scr, l_tup, lm_lst, lm_str, lm_int, lm_tup, lm_non, lm_bl, eqOk_str, eqOk_int, eqOk_non, deq_int, deq_str, two_le, isNonD, tysOf, c_parameter_numbers, N_parameter_numbers, wipeE]
    refine itD_of h1 fun gd hg => loopC_pure (fun x => (parN x).map .int) hg (fun x hx N hN => ?_) (by simpa using Nat.le_of_lt h2) (by
      rw [List.nil_append]
      have e : ∀ ys : List D, ys.filterMap (fun x => (parN x).map D.int) = (parNs ys).map D.int := fun ys => by
        unfold parNs
        rw [List.map_filterMap]
      rw [e]
      exact hq)
    have hx := List.all_eq_true.mp h3 x hx
    unfold okItem at hx
    split at hx
    · simp [startE, wpS, wpT, wpE, wpA, wpI, wpG, wpGs, wpOpt, spLen, spIsi, spInt, spStr, spTup, spLst, spMax, spApp, spFind, spSplit, spJoin, spDget, tn_str, tn_int, tn_bl, tn_non, tn_tup, tn_lst, tn_scr, td_str, td_lst, isB, tys, truD, cmpD, binD, slD, ixD, outs, eAllS, eAllN, eMaxD, eGin, eGinT, eGix, eRse, eCal0, drf, sq_tup, sq_lst, sq_scr, sq_str, sq_int, sq_non, l_lst, l_scr, l_tup, lm_lst, lm_str, lm_int, lm_tup, lm_non, lm_bl, eqOk_str, eqOk_int, eqOk_non, deq_int, deq_str, two_le, isNonD, tysOf, atI_zero]
      exact hN
    · simp [startE, wpS, wpT, wpE, wpA, wpI, wpG, wpGs, wpOpt, spLen, spIsi, spInt, spStr, spTup, spLst, spMax, spApp, spFind, spSplit, spJoin, spDget, tn_str, tn_int, tn_bl, tn_non, tn_tup, tn_lst, tn_scr, td_str, td_lst, isB, tys, truD, cmpD, binD, slD, ixD, outs, eAllS, eAllN, eMaxD, eGin, eGinT, eGix, eRse, eCal0, drf, sq_tup, sq_lst, sq_scr, sq_str, sq_int, sq_non, l_lst, l_scr, l_tup, lm_lst, lm_str, lm_int, lm_tup, lm_non, lm_bl, eqOk_str, eqOk_int, eqOk_non, deq_int, deq_str, two_le, isNonD, tysOf, atI_zero]
      exact hN
    · rename_i k n hmem
      simp [startE, wpS, wpT, wpE, wpA, wpI, wpG, wpGs, wpOpt, spLen, spIsi, spInt, spStr, spTup, spLst, spMax, spApp, spFind, spSplit, spJoin, spDget, tn_str, tn_int, tn_bl, tn_non, tn_tup, tn_lst, tn_scr, td_str, td_lst, isB, tys, truD, cmpD, binD, slD, ixD, outs, eAllS, eAllN, eMaxD, eGin, eGinT, eGix, eRse, eCal0, drf, sq_tup, sq_lst, sq_scr, sq_str, sq_int, sq_non, l_lst, l_scr, l_tup, lm_lst, lm_str, lm_int, lm_tup, lm_non, lm_bl, eqOk_str, eqOk_int, eqOk_non, deq_int, deq_str, two_le, isNonD, tysOf, atI_zero, show atI [D.str k, D.int n] 1 = some (.int n) from rfl]
      simp only [parN] at hN
      split
      · rename_i e
        rw [if_pos e] at hN
        exact hN
      · rename_i e
        rw [if_neg e] at hN
        exact hN
    · rename_i k n hmem
      simp [startE, wpS, wpT, wpE, wpA, wpI, wpG, wpGs, wpOpt, spLen, spIsi, spInt, spStr, spTup, spLst, spMax, spApp, spFind, spSplit, spJoin, spDget, tn_str, tn_int, tn_bl, tn_non, tn_tup, tn_lst, tn_scr, td_str, td_lst, isB, tys, truD, cmpD, binD, slD, ixD, outs, eAllS, eAllN, eMaxD, eGin, eGinT, eGix, eRse, eCal0, drf, sq_tup, sq_lst, sq_scr, sq_str, sq_int, sq_non, l_lst, l_scr, l_tup, lm_lst, lm_str, lm_int, lm_tup, lm_non, lm_bl, eqOk_str, eqOk_int, eqOk_non, deq_int, deq_str, two_le, isNonD, tysOf, atI_zero, show atI [D.str k, D.int n] 1 = some (.int n) from rfl]
      simp only [parN] at hN
      split
      · rename_i e
        rw [if_pos e] at hN
        exact hN
      · rename_i e
        rw [if_neg e] at hN
        exact hN
    · rename_i k n hmem
      have e := of_decide_eq_true hx
      simp [startE, wpS, wpT, wpE, wpA, wpI, wpG, wpGs, wpOpt, spLen, spIsi, spInt, spStr, spTup, spLst, spMax, spApp, spFind, spSplit, spJoin, spDget, tn_str, tn_int, tn_bl, tn_non, tn_tup, tn_lst, tn_scr, td_str, td_lst, isB, tys, truD, cmpD, binD, slD, ixD, outs, eAllS, eAllN, eMaxD, eGin, eGinT, eGix, eRse, eCal0, drf, sq_tup, sq_lst, sq_scr, sq_str, sq_int, sq_non, l_lst, l_scr, l_tup, lm_lst, lm_str, lm_int, lm_tup, lm_non, lm_bl, eqOk_str, eqOk_int, eqOk_non, deq_int, deq_str, two_le, isNonD, tysOf, atI_zero, e]
      exact hN
    · rename_i k n hmem
      have e := of_decide_eq_true hx
      simp [startE, wpS, wpT, wpE, wpA, wpI, wpG, wpGs, wpOpt, spLen, spIsi, spInt, spStr, spTup, spLst, spMax, spApp, spFind, spSplit, spJoin, spDget, tn_str, tn_int, tn_bl, tn_non, tn_tup, tn_lst, tn_scr, td_str, td_lst, isB, tys, truD, cmpD, binD, slD, ixD, outs, eAllS, eAllN, eMaxD, eGin, eGinT, eGix, eRse, eCal0, drf, sq_tup, sq_lst, sq_scr, sq_str, sq_int, sq_non, l_lst, l_scr, l_tup, lm_lst, lm_str, lm_int, lm_tup, lm_non, lm_bl, eqOk_str, eqOk_int, eqOk_non, deq_int, deq_str, two_le, isNonD, tysOf, atI_zero, e]
      exact hN
    · cases hx
  · exact h.elim
theorem w_parameters : ∀ ds μ Q QX, μ.wf → objBs μ.next ds = true → sp_parameters ds μ Q QX → ds.length = 1 ∧ wpS c_parameters (startE N_parameters ds) μ (outs μ.next Q QX) := by
  intro ds μ Q QX hw ho h
  unfold sp_parameters at h
  split at h
  · rename_i d
    refine ⟨rfl, ?_⟩
    obtain ⟨xs, h1, h2, h3, h4⟩ := h
    have hq : finP μ.next Q (.int (maxI 0 (parNs xs))) μ := fin_same hw rfl h4
    simp [startE, wpS, wpT, wpE, wpA, wpI, wpG, wpGs, wpOpt, spLen, spIsi, spInt, spStr, spTup, spLst, spMax, spApp, spFind, spSplit, spJoin, spDget, tn_str, tn_int, tn_bl, tn_non, tn_tup, tn_lst, tn_scr, td_str, td_lst, isB, tys, truD, cmpD, binD, slD, ixD, outs, eAllS, eAllN, eMaxD, eGin, eGinT, eGix, eRse, eCal0, drf, sq_tup, sq_lst, sq_scr, sq_str, sq_int, sq_non, l_lst, l_scr, l_tup, lm_lst, lm_str, lm_int, lm_tup, lm_non, lm_bl, eqOk_str, eqOk_int, eqOk_non, deq_int, deq_str, two_le, isNonD, tysOf, c_parameters, N_parameters, sp_parameter_numbers]
    exact ⟨xs, h1, h2, by simpa using h3, parNs xs, rfl, hq⟩
  · exact h.elim
end M
end

section
set_option Elab.async false
set_option linter.all false
set_option maxRecDepth 100000
set_option maxHeartbeats 4000000
set_option autoImplicit false
namespace M
open PySem PySem.Spec PyProof.Rows L2
open SX (S S_len S_cat)
theorem lit_minus : (Str.ofString "-") = S [45] := by decide +kernel
theorem lit_zero : (Str.ofString "0") = S [48] := by decide +kernel
theorem lit_quote : (Str.ofString "'") = S [39] := by decide +kernel
theorem lit_dollar : (Str.ofString "$") = S [36] := by decide +kernel
theorem lit_space : (Str.ofString " ") = S [32] := by decide +kernel
theorem lit_empty : (Str.ofString "") = S [] := by decide +kernel
theorem S_arr (a : Array Nat) (l : List Nat) : ((⟨a⟩ : Str) = S l) = (a.toList = l) := by
  apply propext
  constructor
  · intro h
    have : (⟨a⟩ : Str).cps = (S l).cps := by rw [h]
    have h2 : a = l.toArray := this
    rw [h2]
  · intro h
    subst h
    rfl
theorem digitsL_range {c : Nat} (h : c ∈ digitsL) : 48 ≤ c ∧ c ≤ 57 := by
  have e : digitsL = [48, 49, 50, 51, 52, 53, 54, 55, 56, 57] := by decide +kernel
  rw [e] at h
  simp at h
  omega
theorem digs_int {dg : List Nat} (h1 : 1 ≤ dg.length) (h2 : dg.length ≤ 10) (h3 : (dg.all fun c => decide (c ∈ digitsL)) = true) : intText? (S dg) = some ((NumText.digitsVal dg : Nat) : Int) := by
  refine SX.int_S ?_ (fun z => by subst z; simp at h1) (by omega)
  rw [List.all_eq_true] at h3 ⊢
  intro c hc
  obtain ⟨a, b⟩ := digitsL_range (of_decide_eq_true (h3 c hc))
  simp [a, b]
theorem ndig {dg : List Nat} : (∃ x, x ∈ dg ∧ ¬x ∈ (Str.ofString "0123456789").cps) ↔ (dg.all fun c => decide (c ∈ digitsL)) = false := by
  simp [digitsL]
/-- from the digits on -/
theorem num_rest {μ : Sto} {Q : Post} {l dg : List Nat} {n : Nat} {A B : Prop} (hA : A) (hB : dg.length ≤ 10 → B) (e : digs l = dg) (hq : ∀ o, numOf l = o → finP n Q (optI o) μ) :
    (if 1 ≤ (dg.length : Int) then if 10 < (dg.length : Int) then finP n Q .non μ else
      if ∃ x, x ∈ dg ∧ ¬x ∈ (Str.ofString "0123456789").cps then finP n Q .non μ else A ∧
        match atI dg 0 with
        | some c => if (⟨#[c]⟩ : Str) = Str.ofString "0" then (if S l = Str.ofString "0" then ∃ n0, intText? (S dg) = some n0 ∧ B ∧ (if List.take 1 l = [45] then (if n0 ≤ 2147483648 then (if -n0 ≤ 2147483647 then finP n Q (.int (-n0)) μ else finP n Q .non μ) else finP n Q .non μ) else (if -2147483648 ≤ n0 then (if n0 ≤ 2147483647 then finP n Q (.int n0) μ else finP n Q .non μ) else finP n Q .non μ)) else finP n Q .non μ)
          else ∃ n0, intText? (S dg) = some n0 ∧ B ∧ (if List.take 1 l = [45] then (if n0 ≤ 2147483648 then (if -n0 ≤ 2147483647 then finP n Q (.int (-n0)) μ else finP n Q .non μ) else finP n Q .non μ) else (if -2147483648 ≤ n0 then (if n0 ≤ 2147483647 then finP n Q (.int n0) μ else finP n Q .non μ) else finP n Q .non μ))
        | none => False
      else finP n Q .non μ) := by
  have no : ¬ (1 ≤ dg.length ∧ dg.length ≤ 10) ∨ (dg.all fun c => decide (c ∈ digitsL)) = false → finP n Q .non μ := fun z => hq none (by
    unfold numOf
    rw [e, if_pos z])
  by_cases h1 : 1 ≤ dg.length
  · rw [if_pos (by omega)]
    by_cases h2 : dg.length ≤ 10
    · rw [if_neg (by omega)]
      by_cases h3 : (dg.all fun c => decide (c ∈ digitsL)) = true
      · rw [if_neg (by rw [ndig, h3]; exact fun z => by cases z)]
        refine ⟨hA, ?_⟩
        have hi := digs_int h1 h2 h3
        have base : ¬ (¬ (1 ≤ dg.length ∧ dg.length ≤ 10) ∨ (dg.all fun c => decide (c ∈ digitsL)) = false) := by
          rintro (z | z)
          · exact z ⟨h1, h2⟩
          · rw [h3] at z
            cases z
        cases dg with
        | nil => simp at h1
        | cons c r =>
          rw [atI_zero]
          have fin : ¬ ((digs l).head? = some 48 ∧ l ≠ [48]) → ∃ n0, intText? (S (c :: r)) = some n0 ∧ B ∧ (if List.take 1 l = [45] then (if n0 ≤ 2147483648 then (if -n0 ≤ 2147483647 then finP n Q (.int (-n0)) μ else finP n Q .non μ) else finP n Q .non μ) else (if -2147483648 ≤ n0 then (if n0 ≤ 2147483647 then finP n Q (.int n0) μ else finP n Q .non μ) else finP n Q .non μ)) := fun z => by
            refine ⟨_, hi, hB h2, ?_⟩
            have hq2 := hq _ rfl
            unfold numOf at hq2
            rw [if_neg (by rw [e]; exact base), if_neg z, e] at hq2
            dsimp only at hq2
            by_cases hm : List.take 1 l = [45]
            · rw [if_pos hm] at hq2 ⊢
              by_cases g1 : ((NumText.digitsVal (c :: r) : Nat) : Int) ≤ 2147483648
              · rw [if_pos g1]
                by_cases g2 : -((NumText.digitsVal (c :: r) : Nat) : Int) ≤ 2147483647
                · rw [if_pos g2]
                  rw [if_pos ⟨by omega, g2⟩] at hq2
                  exact hq2
                · omega
              · rw [if_neg g1]
                rw [if_neg (by omega)] at hq2
                exact hq2
            · rw [if_neg hm] at hq2 ⊢
              rw [if_pos (by omega)]
              by_cases g2 : ((NumText.digitsVal (c :: r) : Nat) : Int) ≤ 2147483647
              · rw [if_pos g2]
                rw [if_pos ⟨by omega, g2⟩] at hq2
                exact hq2
              · rw [if_neg g2]
                rw [if_neg (by omega)] at hq2
                exact hq2
          by_cases h4 : c = 48
          · subst h4
            dsimp only
            rw [if_pos (by rw [lit_zero])]
            by_cases h5 : l = [48]
            · rw [if_pos (by rw [h5, lit_zero])]
              exact fin fun z => z.2 h5
            · rw [if_neg (by rw [lit_zero, S_eq]; exact h5)]
              refine hq none ?_
              unfold numOf
              rw [if_neg (by rw [e]; exact base), if_pos ⟨by rw [e]; rfl, h5⟩]
          · dsimp only
            rw [if_neg (by rw [lit_zero]; intro z; exact h4 (by have := SX.S_inj (a := [c]) z; simpa using this))]
            exact fin fun z => h4 (by rw [e] at z; simpa using z.1)
      · rw [if_pos (by rw [ndig]; simpa using h3)]
        exact no (.inr (by simpa using h3))
    · rw [if_pos (by omega)]
      exact no (.inl fun z => h2 z.2)
  · rw [if_neg (by omega)]
    exact no (.inl fun z => h1 z.1)
theorem w_number_of : ∀ ds μ Q QX, μ.wf → objBs μ.next ds = true → sp_number_of ds μ Q QX → ds.length = 1 ∧ wpS c_number_of (startE N_number_of ds) μ (outs μ.next Q QX) := by
  intro ds μ Q QX hw ho h
  unfold sp_number_of at h
  split at h
  · rename_i s
    obtain ⟨l, rfl⟩ := of_S s
    obtain ⟨h1, h2⟩ := h
    refine ⟨rfl, ?_⟩
    rw [S_cps] at h2
    rw [S_len] at h1
    have hq : ∀ o, numOf l = o → finP μ.next Q (optI o) μ := fun o e => by
      subst e
      refine fin_same hw ?_ h2
      cases numOf l <;> rfl
    have hd : (digs l).length ≤ sizeLine := by
      unfold digs
      split
      · rw [List.length_drop]; omega
      · exact h1
    simp [startE, wpS, wpT, wpE, wpA, wpI, wpG, wpGs, wpOpt, spLen, spIsi, spInt, spStr, spTup, spLst, spMax, spApp, spFind, spSplit, spJoin, spDget, tn_str, tn_int, tn_bl, tn_non, tn_tup, tn_lst, tn_scr, td_str, td_lst, isB, tys, truD, cmpD, binD, slD, ixD, outs, eAllS, eAllN, eMaxD, eGin, eGinT, eGix, eRse, eCal0, drf, sq_tup, sq_lst, sq_scr, sq_str, sq_int, sq_non, l_lst, l_scr, l_tup, lm_lst, lm_str, lm_int, lm_tup, lm_non, lm_bl, eqOk_str, eqOk_int, eqOk_non, deq_int, deq_str, two_le, isNonD, tysOf, c_number_of, N_number_of, S_len, h1, S_cps, cut_01, cut_1, lit_minus, S_arr]
    by_cases hm : List.take 1 l = [45]
    · rw [if_pos hm]
      refine ⟨by omega, ?_⟩
      have := num_rest (l := l) (dg := l.tail) (n := μ.next) (μ := μ) (Q := Q) (A := l.length ≤ sizeLine + 1) (B := l.length ≤ 641) (by omega) (by rw [List.length_tail]; omega) (by unfold digs; rw [if_pos hm, List.drop_one]) hq
      rw [List.length_tail] at this
      exact this
    · rw [if_neg hm]
      have := num_rest (l := l) (dg := l) (n := μ.next) (μ := μ) (Q := Q) (A := True) (B := l.length ≤ 640) trivial (by omega) (by unfold digs; rw [if_neg hm]) hq
      simp only [true_and] at this
      exact this
  · exact h.elim
theorem w_term_of : ∀ ds μ Q QX, μ.wf → objBs μ.next ds = true → sp_term_of ds μ Q QX → ds.length = 1 ∧ wpS c_term_of (startE N_term_of ds) μ (outs μ.next Q QX) := by
  intro ds μ Q QX hw ho h
  unfold sp_term_of at h
  split at h
  · rename_i s
    obtain ⟨l, rfl⟩ := of_S s
    obtain ⟨h1, h2⟩ := h
    refine ⟨rfl, ?_⟩
    rw [S_cps] at h2
    rw [S_len] at h1
    have hq : ∀ o, termOf l = o → objB μ.next o = true → finP μ.next Q o μ := fun o e ho2 => by
      subst e
      exact fin_same hw ho2 h2
    simp [startE, wpS, wpT, wpE, wpA, wpI, wpG, wpGs, wpOpt, spLen, spIsi, spInt, spStr, spTup, spLst, spMax, spApp, spFind, spSplit, spJoin, spDget, tn_str, tn_int, tn_bl, tn_non, tn_tup, tn_lst, tn_scr, td_str, td_lst, isB, tys, truD, cmpD, binD, slD, ixD, outs, eAllS, eAllN, eMaxD, eGin, eGinT, eGix, eRse, eCal0, drf, sq_tup, sq_lst, sq_scr, sq_str, sq_int, sq_non, l_lst, l_scr, l_tup, lm_lst, lm_str, lm_int, lm_tup, lm_non, lm_bl, eqOk_str, eqOk_int, eqOk_non, deq_int, deq_str, two_le, isNonD, tysOf, c_term_of, N_term_of, S_len, h1, S_cps, cut_01, cut_1, lit_quote, lit_dollar, S_arr, cut_in, atI_neg1, sp_is_text, spB, sp_number_of]
    have hT : ∀ o, termOf l = o → objB μ.next o = true → finP μ.next Q o μ := hq
    unfold termOf at hT
    by_cases hm : List.take 1 l = [39]
    · rw [if_pos hm]
      rw [if_pos hm, List.drop_one] at hT
      by_cases g1 : l.length > 1
      · rw [if_pos (by omega)]
        cases hl : l.getLast? with
        | none =>
          rw [List.getLast?_eq_none_iff] at hl
          subst hl
          simp at g1
        | some c =>
          dsimp only
          by_cases g2 : c = 39
          · rw [if_pos g2]
            refine ⟨by omega, ?_⟩
            by_cases g3 : isText l.tail.dropLast = true
            · rw [if_pos g3]
              exact hT _ (if_pos ⟨g1, by rw [hl, g2], g3⟩) rfl
            · rw [if_neg g3]
              exact hT _ (if_neg fun z => g3 z.2.2) rfl
          · rw [if_neg g2]
            exact hT _ (if_neg fun z => g2 (by rw [hl] at z; exact Option.some.inj z.2.1)) rfl
      · rw [if_neg (by omega)]
        exact hT _ (if_neg fun z => g1 z.1) rfl
    · rw [if_neg hm]
      rw [if_neg hm] at hT
      by_cases hd : List.take 1 l = [36]
      · rw [if_pos hd]
        rw [if_pos hd] at hT
        match l, hT, h1, hd with
        | [], hT, h1, hd => simp at hd
        | [a], hT, h1, hd =>
          rw [if_neg (by simp)]
          exact hT _ rfl rfl
        | [a, c], hT, h1, hd =>
          rw [if_pos (by simp), show atI [a, c] 1 = some c from rfl]
          dsimp only at hT ⊢
          rw [show cutD (Str.ofString "0123456789").cps.toList (some 1) (some 5) = [49, 50, 51, 52] by decide +kernel]
          refine ⟨by decide +kernel, ?_⟩
          rw [show strIn ⟨#[c]⟩ ⟨[49, 50, 51, 52].toArray⟩ = decide (c ∈ [49, 50, 51, 52]) from strIn_one c _]
          by_cases g : c ∈ [49, 50, 51, 52]
          · rw [if_pos (decide_eq_true g)]
            have e := digs_int (dg := [c]) (by simp) (by simp) (by
              have : c ∈ digitsL := by
                rw [show digitsL = [48, 49, 50, 51, 52, 53, 54, 55, 56, 57] by decide +kernel]
                simp at g ⊢
                omega
              simp [this])
            have e2 : NumText.digitsVal [c] = c - 48 := by simp [NumText.digitsVal]
            rw [e2] at e
            exact ⟨_, e, hT _ (if_pos g) rfl⟩
          · rw [if_neg (by simpa using g)]
            exact hT _ (if_neg g) rfl
        | a :: b :: c :: r, hT, h1, hd =>
          rw [if_neg (by simp only [List.length_cons]; omega)]
          exact hT _ rfl rfl
      · rw [if_neg hd]
        rw [if_neg hd] at hT
        exact hT _ rfl (by cases numOf l <;> rfl)
  · exact h.elim
end M
end

section
set_option Elab.async false
set_option linter.all false
set_option maxRecDepth 100000
set_option maxHeartbeats 4000000
set_option autoImplicit false
namespace M
open PySem PySem.Spec PyProof.Rows L2
open SX (S S_len S_cat)
theorem spl_head : ∀ (l acc : List Nat), ∃ r, TL.spl [32] 0 acc l = (acc ++ l.takeWhile fun x => decide (x ≠ 32)) :: r
  | [], acc => ⟨[], by simp [TL.spl]⟩
  | c :: r, acc => by
    unfold TL.spl
    by_cases h : c = 32
    · subst h
      rw [if_pos (by unfold TL.pre; rfl)]
      refine ⟨TL.spl [32] ([32].length - 1) [] r, ?_⟩
      simp
    · rw [if_neg (by unfold TL.pre; simpa using h)]
      obtain ⟨t, e⟩ := spl_head r (acc ++ [c])
      exact ⟨t, by rw [e, List.takeWhile_cons_of_pos (by simpa using h)]; simp⟩
theorem mem_idx {l : List Nat} {k : Nat} (h : k < l.length) : (S l).cps.getD k 0 = l[k] := by
  simp [Array.getD, h]
/-- from the opening quote to the closing one -/
theorem find_quote (r : List Nat) : (39 ∈ r ∧ Txt.find3 (S (39 :: r)) (S [39]) 1 = (((r.takeWhile fun x => decide (x ≠ 39)).length + 1 : Nat) : Int)) ∨ (39 ∉ r ∧ Txt.find3 (S (39 :: r)) (S [39]) 1 = -1) := by
  have hf : fromIndex (S (39 :: r)).length 1 = 1 := by
    rw [S_len, List.length_cons]
    first | rfl | (unfold fromIndex; simp) | (unfold fromIndex; split <;> omega)
  have hg : ∀ k, (S (39 :: r)).cps.getD (k + 1) 0 = r.getD k 0 := fun k => by
    simp [Array.getD]
    by_cases hk : k < r.length
    · simp [hk]
    · simp [hk]
  rcases StrLaws.find3_spec (S (39 :: r)) 39 1 with ⟨e, h⟩ | ⟨k, e, h1, h2, h3, h4⟩
  · refine .inr ⟨fun hm => ?_, e⟩
    obtain ⟨i, hi, ei⟩ := List.getElem_of_mem hm
    refine h (i + 1) (by rw [hf]; omega) (by rw [S_len, List.length_cons]; omega) ?_
    rw [hg]
    simp [List.getD, hi, ei]
  · rw [hf] at h1 h4
    rw [S_len, List.length_cons] at h2
    obtain ⟨j, rfl⟩ : ∃ j, k = j + 1 := ⟨k - 1, by omega⟩
    have hj : j < r.length := by omega
    rw [hg] at h3
    have hr : r[j] = 39 := by simpa [List.getD, hj] using h3
    refine .inl ⟨by rw [← hr]; exact List.getElem_mem hj, ?_⟩
    have hb : ∀ i, (hi : i < j) → r[i] ≠ 39 := fun i hi z => by
      refine h4 (i + 1) (by omega) (by omega) ?_
      rw [hg]
      have : i < r.length := by omega
      simp [List.getD, this, z]
    have hlen : (r.takeWhile fun x => decide (x ≠ 39)).length = j := by
      have : r = r.take j ++ (39 :: r.drop (j + 1)) := by
        conv => lhs; rw [← List.take_append_drop j r]
        rw [List.drop_eq_getElem_cons hj, hr]
      rw [this, List.takeWhile_append_of_pos (by
        intro a ha
        obtain ⟨i, hi, rfl⟩ := List.getElem_of_mem ha
        rw [List.length_take] at hi
        rw [List.getElem_take]
        simpa using hb i (by omega)), List.takeWhile_cons_of_neg (by simp)]
      simp
      omega
    rw [hlen]
    exact e
theorem take_quote {r : List Nat} (h : 39 ∈ r) : (39 :: r).take ((r.takeWhile fun x => decide (x ≠ 39)).length + 1 + 1) = 39 :: (r.takeWhile (fun x => decide (x ≠ 39)) ++ [39]) := by
  rw [List.take_succ_cons]
  congr 1
  have : ∀ r : List Nat, 39 ∈ r → r.take ((r.takeWhile fun x => decide (x ≠ 39)).length + 1) = r.takeWhile (fun x => decide (x ≠ 39)) ++ [39] := by
    intro r
    induction r with
    | nil => intro h; cases h
    | cons c r ih =>
      intro h
      by_cases hc : c = 39
      · subst hc
        rw [List.takeWhile_cons_of_neg (by simp)]
        rfl
      · rw [List.takeWhile_cons_of_pos (by simpa using hc), List.length_cons, List.take_succ_cons, ih (by
          rcases List.mem_cons.mp h with z | z
          · exact absurd z.symm hc
          · exact z)]
        rfl
  exact this r h
theorem fp_cons {c : Nat} {r : List Nat} : fp (c :: r) = if c = 39 then (if 39 ∈ r then 39 :: (r.takeWhile (fun x => decide (x ≠ 39)) ++ [39]) else []) else (c :: r).takeWhile fun x => decide (x ≠ 32) := rfl
theorem w_first_part : ∀ ds μ Q QX, μ.wf → objBs μ.next ds = true → sp_first_part ds μ Q QX → ds.length = 1 ∧ wpS c_first_part (startE N_first_part ds) μ (outs μ.next Q QX) := by
  intro ds μ Q QX hw ho h
  unfold sp_first_part at h
  split at h
  · rename_i s
    obtain ⟨l, rfl⟩ := of_S s
    obtain ⟨h1, h2⟩ := h
    refine ⟨rfl, ?_⟩
    rw [S_cps] at h2
    rw [S_len] at h1
    have hq : finP μ.next Q (.str (S (fp l))) μ := fin_same hw rfl h2
    have hz : l.length ≤ sizeLine := by omega
    simp [startE, wpS, wpT, wpE, wpA, wpI, wpG, wpGs, wpOpt, spLen, spIsi, spInt, spStr, spTup, spLst, spMax, spApp, spFind, spSplit, spJoin, spDget, tn_str, tn_int, tn_bl, tn_non, tn_tup, tn_lst, tn_scr, td_str, td_lst, isB, tys, truD, cmpD, binD, slD, ixD, outs, eAllS, eAllN, eMaxD, eGin, eGinT, eGix, eRse, eCal0, drf, sq_tup, sq_lst, sq_scr, sq_str, sq_int, sq_non, l_lst, l_scr, l_tup, lm_lst, lm_str, lm_int, lm_tup, lm_non, lm_bl, eqOk_str, eqOk_int, eqOk_non, deq_int, deq_str, two_le, isNonD, tysOf, c_first_part, N_first_part, S_len, hz, h1, S_cps, cut_01, lit_quote, lit_space, S_arr]
    cases l with
    | nil =>
      rw [if_neg (by simp), SX.split_S (by simp) (by decide)]
      exact hq
    | cons c r =>
      by_cases hc : c = 39
      · subst hc
        have eT : List.take 1 (39 :: r) = [39] := rfl
        rw [if_pos eT]
        rcases find_quote r with ⟨hm, e⟩ | ⟨hm, e⟩
        · rw [e]
          have e2 : ((((r.takeWhile fun x => decide (x ≠ 39)).length + 1 : Nat) : Int) + 1) = (((r.takeWhile fun x => decide (x ≠ 39)).length + 1 + 1 : Nat) : Int) := by omega
          rw [e2, cut_to, take_quote hm]
          rw [fp_cons, if_pos rfl, if_pos hm] at hq
          exact hq
        · rw [e]
          have e2 : (-1 + 1 : Int) = ((0 : Nat) : Int) := rfl
          rw [e2, cut_to, List.take_zero]
          rw [fp_cons, if_pos rfl, if_neg hm] at hq
          exact hq
      · rw [if_neg (by simpa using hc), SX.split_S (by simp) (by decide)]
        obtain ⟨t, et⟩ := spl_head (c :: r) []
        rw [et, List.map_cons, List.map_cons, atI_zero]
        rw [fp_cons, if_neg hc] at hq
        exact hq
  · exact h.elim
theorem fp_le (r : List Nat) : (fp r).length ≤ r.length := by
  cases r with
  | nil => exact Nat.le_refl _
  | cons c r =>
    rw [fp_cons]
    split
    · split
      · rename_i hm
        have := congrArg List.length (take_quote hm)
        simp only [List.length_take, List.length_cons, List.length_append, List.length_nil] at this ⊢
        omega
      · simp
    · exact (List.takeWhile_sublist _).length_le
theorem w_parts_of : ∀ ds μ Q QX, μ.wf → objBs μ.next ds = true → sp_parts_of ds μ Q QX → ds.length = 1 ∧ wpS c_parts_of (startE N_parts_of ds) μ (outs μ.next Q QX) := by
  intro ds μ Q QX hw ho h
  unfold sp_parts_of at h
  split at h
  · rename_i s
    obtain ⟨l, rfl⟩ := of_S s
    obtain ⟨h1, h2⟩ := h
    refine ⟨rfl, ?_⟩
    rw [S_cps] at h2
    rw [S_len] at h1
    have hs : ∀ {x : Str}, x.length + 4 ≤ sizeLine → True := fun _ => trivial
    simp [startE, wpS, wpT, wpE, wpA, wpI, wpG, wpGs, wpOpt, spLen, spIsi, spInt, spStr, spTup, spLst, spMax, spApp, spFind, spSplit, spJoin, spDget, tn_str, tn_int, tn_bl, tn_non, tn_tup, tn_lst, tn_scr, td_str, td_lst, isB, tys, truD, cmpD, binD, slD, ixD, outs, eAllS, eAllN, eMaxD, eGin, eGinT, eGix, eRse, eCal0, drf, sq_tup, sq_lst, sq_scr, sq_str, sq_int, sq_non, l_lst, l_scr, l_tup, lm_lst, lm_str, lm_int, lm_tup, lm_non, lm_bl, eqOk_str, eqOk_int, eqOk_non, deq_int, deq_str, two_le, isNonD, tysOf, c_parts_of, N_parts_of, S_len, S_cps, lit_space, lit_empty, S_cat]
    refine ⟨by omega, ?_⟩
    have hob : ∀ ls : List (List Nat), objB μ.next (.lst (ls.map strD)) = true := fun ls => by
      show objBs μ.next (ls.map strD) = true
      induction ls with
      | nil => rfl
      | cons x ls ih => exact ih
    refine whl_ind (fun n δ μ' => ∃ acc r o, δ = [some (.str (S l)), some (.obj μ.next), some (.str (S r)), o] ∧ μ.Part μ' ∧ μ'.cell μ.next = some (.lst (acc.map strD)) ∧ prs n acc r = partsOf l ∧ r.length < n ∧ acc.length + r.length + 2 < sizeLine) (l.length + 2)
      ⟨[], 32 :: l, none, rfl, part_mk hw (part_self hw), Sto.new_same, rfl, by simp, by simp; omega⟩ (fun δ μ' ⟨acc, r, o, _, _, _, _, h, _⟩ => by omega) ?_
    rintro n LW hLW δ μ' ⟨acc, r, o, rfl, q1, c1, p1, b1, b2⟩
    cases r with
    | nil =>
      have e : partsOf l = some acc := p1.symm
      rw [e] at h2
      simp [startE, wpS, wpT, wpE, wpA, wpI, wpG, wpGs, wpOpt, spLen, spIsi, spInt, spStr, spTup, spLst, spMax, spApp, spFind, spSplit, spJoin, spDget, tn_str, tn_int, tn_bl, tn_non, tn_tup, tn_lst, tn_scr, td_str, td_lst, isB, tys, truD, cmpD, binD, slD, ixD, outs, eAllS, eAllN, eMaxD, eGin, eGinT, eGix, eRse, eCal0, drf, sq_tup, sq_lst, sq_scr, sq_str, sq_int, sq_non, l_lst, l_scr, l_tup, lm_lst, lm_str, lm_int, lm_tup, lm_non, lm_bl, eqOk_str, eqOk_int, eqOk_non, deq_int, deq_str, two_le, isNonD, tysOf, t1_parts_of, c1]
      exact fin_part (part_del hw q1 (Nat.le_refl _)) (hob acc) h2
    | cons c r =>
      have hr : r.length + 2 ≤ sizeLine := by rw [List.length_cons] at b2; omega
      have hr1 : r.length + 1 ≤ sizeLine := by omega
      have hf := fp_le r
      have hfz : (fp r).length ≤ sizeLine := by omega
      have ha : acc.length < sizeLine := by rw [List.length_cons] at b2; omega
      have hno : (c ≠ 32 ∨ fp r = []) → finP μ.next Q .non μ' := fun z => by
        have e : partsOf l = none := by
          rw [← p1]
          show (if c ≠ 32 ∨ fp r = [] then none else _) = none
          rw [if_pos z]
        rw [e] at h2
        exact fin_part q1 rfl h2
      simp [startE, wpS, wpT, wpE, wpA, wpI, wpG, wpGs, wpOpt, spLen, spIsi, spInt, spStr, spTup, spLst, spMax, spApp, spFind, spSplit, spJoin, spDget, tn_str, tn_int, tn_bl, tn_non, tn_tup, tn_lst, tn_scr, td_str, td_lst, isB, tys, truD, cmpD, binD, slD, ixD, outs, eAllS, eAllN, eMaxD, eGin, eGinT, eGix, eRse, eCal0, drf, sq_tup, sq_lst, sq_scr, sq_str, sq_int, sq_non, l_lst, l_scr, l_tup, lm_lst, lm_str, lm_int, lm_tup, lm_non, lm_bl, eqOk_str, eqOk_int, eqOk_non, deq_int, deq_str, two_le, isNonD, tysOf, t1_parts_of, b1_parts_of, S_len, S_cps, cut_1, lit_space, lit_empty, S_arr, hr, hr1, atI_zero, sp_first_part, td_obj c1, c1, ha, hfz]
      by_cases hc : c = 32
      · rw [if_pos hc]
        by_cases hp : fp r = []
        · rw [if_pos hp]
          exact hno (.inr hp)
        · rw [if_neg hp]
          refine hLW _ _ ⟨acc ++ [fp r], r.drop (fp r).length, some (.str (S (fp r))), ?_, part_put hw q1 (Nat.le_refl _), by rw [Sto.put_same]; simp [strD], ?_, ?_, ?_⟩
          · rw [show (1 + ((fp r).length : Int)) = (((fp r).length + 1 : Nat) : Int) by omega, cut_from, List.drop_succ_cons]
          · rw [← p1]
            show _ = if c ≠ 32 ∨ fp r = [] then none else prs n (acc ++ [fp r]) (r.drop (fp r).length)
            rw [if_neg (by rintro (z | z); exact z hc; exact hp z)]
          · rw [List.length_drop]
            rw [List.length_cons] at b1
            omega
          · rw [List.length_append, List.length_drop, List.length_singleton]
            rw [List.length_cons] at b2
            have : 0 < (fp r).length := List.length_pos_iff.mpr hp
            omega
      · rw [if_neg hc]
        exact hno (.inl hc)
  · exact h.elim
theorem parts_len {l : List Nat} : ∀ {n : Nat} {acc ps : List (List Nat)}, prs n acc l = some ps → acc.length + l.length ≥ ps.length ∧ (acc ≠ [] ∨ l ≠ [] → ps ≠ [])
  | 0, acc, ps, h => by cases h
  | n + 1, acc, ps, h => by
    cases l with
    | nil =>
      cases h
      exact ⟨by simp, fun z => z.elim id fun z => absurd rfl z⟩
    | cons c r =>
      have h : (if c ≠ 32 ∨ fp r = [] then none else prs n (acc ++ [fp r]) (r.drop (fp r).length)) = some ps := h
      by_cases hz : c ≠ 32 ∨ fp r = []
      · rw [if_pos hz] at h
        cases h
      · rw [if_neg hz] at h
        obtain ⟨h1, h2⟩ := parts_len h
        have : 0 < (fp r).length := List.length_pos_iff.mpr fun e => hz (.inr e)
        refine ⟨?_, fun _ => h2 (.inl (by simp))⟩
        rw [List.length_append, List.length_singleton, List.length_drop] at h1
        rw [List.length_cons]
        omega
end M
end

section
set_option Elab.async false
set_option linter.all false
set_option maxRecDepth 100000
set_option maxHeartbeats 4000000
set_option autoImplicit false
namespace M
open PySem PySem.Spec PyProof.Rows L2
open SX (S S_len S_cat)
theorem forms_ints {z : Str} {d : D} (h : tbl_FORMS.lookup z = some d) : ∃ is : List Int, d = .tup (is.map .int) := by
  have hm : (z, d) ∈ tbl_FORMS := PySem.mem_of_lookup h
  have : ∀ p ∈ tbl_FORMS, ∃ is : List Int, p.2 = .tup (is.map .int) := by
    intro p hp
    simp only [tbl_FORMS, List.mem_cons, List.not_mem_nil, or_false] at hp
    rcases hp with rfl | rfl | rfl | rfl | rfl | rfl | rfl | rfl | rfl | rfl | rfl | rfl
    · exact ⟨[1], rfl⟩
    · exact ⟨[1], rfl⟩
    · exact ⟨[3], rfl⟩
    · exact ⟨[2], rfl⟩
    · exact ⟨[2], rfl⟩
    · exact ⟨[1, 3], rfl⟩
    · exact ⟨[1], rfl⟩
    · exact ⟨[0], rfl⟩
    · exact ⟨[0], rfl⟩
    · exact ⟨[0], rfl⟩
    · exact ⟨[1], rfl⟩
    · exact ⟨[1], rfl⟩
  exact this _ hm
theorem parts_small {b : Nat} : ∀ {n : Nat} {acc ps : List (List Nat)} {l : List Nat}, prs n acc l = some ps → (∀ p ∈ acc, p.length ≤ b) → l.length ≤ b → ∀ p ∈ ps, p.length ≤ b
  | 0, acc, ps, l, h => by cases h
  | n + 1, acc, ps, [], h => by
    cases h
    exact fun ha _ => ha
  | n + 1, acc, ps, c :: r, h => fun ha hb => by
    have h : (if c ≠ 32 ∨ fp r = [] then none else prs n (acc ++ [fp r]) (r.drop (fp r).length)) = some ps := h
    by_cases hz : c ≠ 32 ∨ fp r = []
    · rw [if_pos hz] at h
      cases h
    · rw [if_neg hz] at h
      rw [List.length_cons] at hb
      refine parts_small h (fun p hp => ?_) (by rw [List.length_drop]; omega)
      rcases List.mem_append.mp hp with z | z
      · exact ha p z
      · rw [List.mem_singleton] at z
        subst z
        have := fp_le r
        omega
/-- what a term is -/
theorem termOf_cases (l : List Nat) : termOf l = .non ∨ (∃ x, termOf l = txtD x) ∨ (∃ n : Int, 1 ≤ n ∧ n ≤ 4 ∧ termOf l = parD n) ∨ ∃ i, termOf l = .int i := by
  unfold termOf
  split
  · split
    · exact .inr (.inl ⟨_, rfl⟩)
    · exact .inl rfl
  · split
    · split
      · split
        · rename_i c hc
          refine .inr (.inr (.inl ⟨_, ?_, ?_, rfl⟩))
          · simp at hc; omega
          · simp at hc; omega
        · exact .inl rfl
      · exact .inl rfl
    · cases numOf l with
      | none => exact .inl rfl
      | some i => exact .inr (.inr (.inr ⟨i, rfl⟩))
theorem termOf_eqN (n : Nat) (l : List Nat) : eqN (n + 1) (termOf l) = true := by
  rcases termOf_cases l with e | ⟨x, e⟩ | ⟨m, _, _, e⟩ | ⟨i, e⟩ <;> rw [e] <;> cases n <;> rfl
theorem termOf_non (l : List Nat) : deq (termOf l) .non = isNonD (termOf l) := by
  rcases termOf_cases l with e | ⟨x, e⟩ | ⟨m, _, _, e⟩ | ⟨i, e⟩ <;> rw [e] <;> rfl
theorem termOf_item (l : List Nat) (h : isNonD (termOf l) = false) : okItem (termOf l) = true := by
  rcases termOf_cases l with e | ⟨x, e⟩ | ⟨m, _, _, e⟩ | ⟨i, e⟩
  · rw [e] at h; cases h
  · rw [e]
    show decide (Str.ofString "text" ≠ Str.ofString "parameter") = true
    decide +kernel
  · rw [e]; rfl
  · rw [e]; rfl
theorem termOf_objB (n : Nat) (l : List Nat) : objB n (termOf l) = true := by
  rcases termOf_cases l with e | ⟨x, e⟩ | ⟨m, _, _, e⟩ | ⟨i, e⟩ <;> rw [e] <;> rfl
theorem termOf_par (l : List Nat) (n : Int) (h : parN (termOf l) = some n) : 0 ≤ n ∧ n ≤ 4 := by
  rcases termOf_cases l with e | ⟨x, e⟩ | ⟨m, h1, h2, e⟩ | ⟨i, e⟩ <;> rw [e] at h
  · cases h
  · cases h
  · unfold parD parN at h
    dsimp only at h
    rw [if_pos rfl] at h
    cases h
    omega
  · cases h
/-- the rest of the def: from the terms on -/
theorem read_rest {μ : Sto} {Q : Post} {s : D} {w : List Nat} {rest : List (List Nat)} {E : XPost} (hr : rest.length ≤ 200) (hsm : ∀ p ∈ w :: rest, p.length ≤ sizeLine) (hw : μ.wf) (hh : headOk (w :: rest) = true) (h2 : Q (optT (stmtOf (w :: rest))) μ) :
    loopC (fun x μ N => sp_term_of [x] μ (fun y μ4 => N (some y) μ4) fun x x_1 => False) (fun _ => True)
      (fun ys μ2 => eqOk (.lst ys) = true ∧ if ∃ x, x ∈ ys ∧ deq x .non = true then finP μ.next Q .non μ2 else
        ((D.str (S w) :: rest.map strD).take 2).length + ys.length ≤ sizeLine ∧ ((D.str (S w) :: rest.map strD).take 2 ++ ys).length < sizeLine ∧ (((D.str (S w) :: rest.map strD).take 2 ++ ys).all okItem = true ∧ (((D.str (S w) :: rest.map strD).take 2 ++ ys).length < sizeLine ∧ ((D.str (S w) :: rest.map strD).take 2 ++ ys).all okItem = true ∧
          ((-(2 ^ 62) ≤ maxI 0 (parNs ((D.str (S w) :: rest.map strD).take 2 ++ ys)) + 1 ∧ maxI 0 (parNs ((D.str (S w) :: rest.map strD).take 2 ++ ys)) + 1 < 2 ^ 62) ∧
            if (!((intsD 1 (maxI 0 (parNs ((D.str (S w) :: rest.map strD).take 2 ++ ys)) + 1 - 1).toNat).all fun e => ((parNs ((D.str (S w) :: rest.map strD).take 2 ++ ys)).map .int).any fun y => deq y e)) = true then finP μ.next Q .non μ2 else finP μ.next Q (.tup ((D.str (S w) :: rest.map strD).take 2 ++ ys)) μ2)))) ((D.str (S w) :: rest.map strD).drop 2) [] μ := by
  have e1 : (D.str (S w) :: rest.map strD).drop 2 = ((w :: rest).drop 2).map strD := by rw [List.map_drop]; rfl
  have e2 : (D.str (S w) :: rest.map strD).take 2 = ((w :: rest).take 2).map strD := by rw [List.map_take]; rfl
  have hsz : sizeLine = 16777216 := sizeLine_eq
  rw [e1, e2]
  refine loopC_map (fun x => match x with
    | .str s => termOf s.cps.toList
    | d => d) trivial (fun x hx N hN => ?_) (by rw [List.length_map, List.length_drop, List.length_cons]; omega) ?_
  · obtain ⟨p, hp, rfl⟩ := List.mem_map.mp hx
    unfold sp_term_of strD
    dsimp only
    refine ⟨?_, hN⟩
    rw [S_len]
    exact hsm p (List.mem_of_mem_drop hp)
  · have e3 : (((w :: rest).drop 2).map strD).map (fun x => match x with
        | .str s => termOf s.cps.toList
        | d => d) = ((w :: rest).drop 2).map termOf := by
      rw [List.map_map]
      rfl
    rw [e3]
    refine ⟨?_, ?_⟩
    · show (((w :: rest).drop 2).map termOf).all (eqN 11) = true
      rw [List.all_map, List.all_eq_true]
      exact fun p _ => termOf_eqN 10 p
    · have hex : (∃ x, x ∈ ((w :: rest).drop 2).map termOf ∧ deq x .non = true) ↔ (((w :: rest).drop 2).map termOf).any isNonD = true := by
        rw [List.any_eq_true]
        constructor
        · rintro ⟨x, hx, e⟩
          obtain ⟨p, hp, rfl⟩ := List.mem_map.mp hx
          exact ⟨_, hx, by rw [← termOf_non]; exact e⟩
        · rintro ⟨x, hx, e⟩
          obtain ⟨p, hp, rfl⟩ := List.mem_map.mp hx
          exact ⟨_, hx, by rw [termOf_non]; exact e⟩
      unfold stmtOf at h2
      rw [if_neg (by rw [hh]; exact fun z => by cases z)] at h2
      by_cases hn : (((w :: rest).drop 2).map termOf).any isNonD = true
      · rw [if_pos (hex.mpr hn)]
        rw [if_pos hn] at h2
        exact fin_same hw rfl h2
      · rw [if_neg fun z => hn (hex.mp z)]
        rw [if_neg hn] at h2
        dsimp only at h2
        have hall : (((w :: rest).take 2).map strD ++ ((w :: rest).drop 2).map termOf).all okItem = true := by
          rw [List.all_append, Bool.and_eq_true]
          refine ⟨by rw [List.all_map]; simp [strD, okItem], ?_⟩
          rw [List.all_map, List.all_eq_true]
          intro p hp
          refine termOf_item p ?_
          cases e : isNonD (termOf p) with
          | false => rfl
          | true => exact absurd (List.any_eq_true.mpr ⟨_, List.mem_map_of_mem hp, e⟩) hn
        have hlen : (((w :: rest).take 2).map strD ++ ((w :: rest).drop 2).map termOf).length < sizeLine := by
          simp only [List.length_append, List.length_map, List.length_take, List.length_drop, List.length_cons]
          omega
        generalize hR : ((w :: rest).take 2).map strD ++ ((w :: rest).drop 2).map termOf = R at *
        have hb : ∀ n ∈ parNs R, 0 ≤ n ∧ n ≤ 4 := fun n hn2 => by
          unfold parNs at hn2
          obtain ⟨d, hd, e⟩ := List.mem_filterMap.mp hn2
          rw [← hR] at hd
          rcases List.mem_append.mp hd with z | z
          · obtain ⟨p, _, rfl⟩ := List.mem_map.mp z
            cases e
          · obtain ⟨p, _, rfl⟩ := List.mem_map.mp z
            exact termOf_par p n e
        obtain ⟨m1, m2⟩ := maxI_in 0 4 (z := 0) (by omega) hb
        have hob : objB μ.next (.tup R) = true := by
          show objBs μ.next R = true
          rw [← hR]
          have ap : ∀ (xs ys : List D), objBs μ.next (xs ++ ys) = (objBs μ.next xs && objBs μ.next ys) := by
            intro xs ys
            induction xs with
            | nil => rfl
            | cons x xs ih =>
              show (objB μ.next x && objBs μ.next (xs ++ ys)) = (objB μ.next x && objBs μ.next xs && objBs μ.next ys)
              rw [ih, Bool.and_assoc]
          have al : ∀ {α : Type} (f : α → D), (∀ a, objB μ.next (f a) = true) → ∀ xs : List α, objBs μ.next (xs.map f) = true := by
            intro α f hf xs
            induction xs with
            | nil => rfl
            | cons x xs ih =>
              show (objB μ.next (f x) && objBs μ.next (xs.map f)) = true
              rw [hf, ih]
              rfl
          rw [ap, al _ (fun _ => rfl), al _ (termOf_objB _)]
          rfl
        refine ⟨by rw [← List.length_append, hR]; omega, hlen, hall, hlen, hall, ⟨by omega, by omega⟩, ?_⟩
        rw [show maxI 0 (parNs R) + 1 - 1 = maxI 0 (parNs R) by omega]
        by_cases hc : ((intsD 1 (maxI 0 (parNs R)).toNat).all fun e => ((parNs R).map D.int).any fun y => deq y e) = true
        · rw [hc, if_neg (by decide)]
          rw [if_pos hc] at h2
          exact fin_same hw hob h2
        · rw [if_pos (by rw [Bool.not_eq_true] at hc; rw [hc]; rfl)]
          rw [if_neg hc] at h2
          exact fin_same hw rfl h2
theorem w_read_statement : ∀ ds μ Q QX, μ.wf → objBs μ.next ds = true → sp_read_statement ds μ Q QX → ds.length = 1 ∧ wpS c_read_statement (startE N_read_statement ds) μ (outs μ.next Q QX) := by
  intro ds μ Q QX hw ho h
  unfold sp_read_statement at h
  split at h
  · rename_i s
    obtain ⟨l, rfl⟩ := of_S s
    obtain ⟨h1, h2⟩ := h
    refine ⟨rfl, ?_⟩
    rw [S_cps] at h2
    rw [S_len] at h1
    have hz : l.length ≤ sizeLine := by omega
    have hz4 : l.length + 4 ≤ sizeLine := by omega
    have hno : readS l = none → finP μ.next Q .non μ := fun e => by
      rw [e] at h2
      exact fin_same hw rfl h2
    cases hs : isStrg l with
    | false =>
      simp [startE, wpS, wpT, wpE, wpA, wpI, wpG, wpGs, wpOpt, spLen, spIsi, spInt, spStr, spTup, spLst, spMax, spApp, spFind, spSplit, spJoin, spDget, tn_str, tn_int, tn_bl, tn_non, tn_tup, tn_lst, tn_scr, td_str, td_lst, isB, tys, truD, cmpD, binD, slD, ixD, outs, eAllS, eAllN, eMaxD, eGin, eGinT, eGix, eRse, eCal0, drf, sq_tup, sq_lst, sq_scr, sq_str, sq_int, sq_non, l_lst, l_scr, l_tup, lm_lst, lm_str, lm_int, lm_tup, lm_non, lm_bl, eqOk_str, eqOk_int, eqOk_non, deq_int, deq_str, two_le, isNonD, tysOf, c_read_statement, N_read_statement, S_len, S_cps, hz, sp_is_string, spB, hs]
      exact hno (by unfold readS; rw [hs, if_neg Bool.false_ne_true])
    | true =>
      have hl200 : l.length ≤ 200 := by
        unfold isStrg at hs
        rw [Bool.and_eq_true, decide_eq_true_eq] at hs
        exact hs.1
      cases hp : partsOf l with
      | none =>
        simp [startE, wpS, wpT, wpE, wpA, wpI, wpG, wpGs, wpOpt, spLen, spIsi, spInt, spStr, spTup, spLst, spMax, spApp, spFind, spSplit, spJoin, spDget, tn_str, tn_int, tn_bl, tn_non, tn_tup, tn_lst, tn_scr, td_str, td_lst, isB, tys, truD, cmpD, binD, slD, ixD, outs, eAllS, eAllN, eMaxD, eGin, eGinT, eGix, eRse, eCal0, drf, sq_tup, sq_lst, sq_scr, sq_str, sq_int, sq_non, l_lst, l_scr, l_tup, lm_lst, lm_str, lm_int, lm_tup, lm_non, lm_bl, eqOk_str, eqOk_int, eqOk_non, deq_int, deq_str, two_le, isNonD, tysOf, c_read_statement, N_read_statement, S_len, S_cps, hz, hz4, sp_is_string, spB, hs, sp_parts_of, hp, optL]
        exact hno (by unfold readS; rw [hs, if_pos rfl, hp]; rfl)
      | some ps =>
        have hlen := parts_len (l := 32 :: l) (n := l.length + 2) (acc := []) hp
        have hst : readS l = stmtOf ps := by unfold readS; rw [hs, if_pos rfl, hp]; rfl
        rw [hst] at hno h2
        cases ps with
        | nil => exact (hlen.2 (.inr (by simp)) rfl).elim
        | cons w rest =>
          have hr : rest.length ≤ 200 := by
            have := hlen.1
            simp at this
            omega
          cases hF : tbl_FORMS.lookup (S w) with
          | none =>
            simp [startE, wpS, wpT, wpE, wpA, wpI, wpG, wpGs, wpOpt, spLen, spIsi, spInt, spStr, spTup, spLst, spMax, spApp, spFind, spSplit, spJoin, spDget, tn_str, tn_int, tn_bl, tn_non, tn_tup, tn_lst, tn_scr, td_str, td_lst, isB, tys, truD, cmpD, binD, slD, ixD, outs, eAllS, eAllN, eMaxD, eGin, eGinT, eGix, eRse, eCal0, drf, sq_tup, sq_lst, sq_scr, sq_str, sq_int, sq_non, l_lst, l_scr, l_tup, lm_lst, lm_str, lm_int, lm_tup, lm_non, lm_bl, eqOk_str, eqOk_int, eqOk_non, deq_int, deq_str, two_le, isNonD, tysOf, c_read_statement, N_read_statement, S_len, S_cps, hz, hz4, sp_is_string, spB, hs, sp_parts_of, hp, optL, strD, atI_zero, hF]
            refine hno ?_
            have : headOk (w :: rest) = false := by
              unfold headOk formOk
              cases rest <;> simp [hF]
            unfold stmtOf
            rw [if_pos this]
          | some d =>
            obtain ⟨is, rfl⟩ := forms_ints hF
            have hany : ∀ n : Nat, (∀ x : Int, x ∈ is → ¬ x = (n : Int)) ↔ formOk w n = false := fun n => by
              unfold formOk
              rw [hF]
              dsimp only
              rw [List.any_map, List.any_eq_false]
              exact ⟨fun h x hx => by simpa using h x hx, fun h x hx => by simpa using h x hx⟩
            have hsm : ∀ p ∈ w :: rest, p.length ≤ sizeLine := fun p hp2 => by
              have := parts_small (b := l.length + 1) hp (fun _ z => by cases z) (by simp) p hp2
              omega
            have eis : eqOk (.tup (is.map .int)) = true := by
              show (is.map D.int).all (eqN 11) = true
              rw [List.all_map, List.all_eq_true]
              exact fun _ _ => rfl
            cases rest with
            | nil =>
              have hn0 : (∀ x : Int, x ∈ is → ¬ x = 0) ↔ formOk w 0 = false := by simpa using hany 0
              simp [startE, wpS, wpT, wpE, wpA, wpI, wpG, wpGs, wpOpt, spLen, spIsi, spInt, spStr, spTup, spLst, spMax, spApp, spFind, spSplit, spJoin, spDget, tn_str, tn_int, tn_bl, tn_non, tn_tup, tn_lst, tn_scr, td_str, td_lst, isB, tys, truD, cmpD, binD, slD, ixD, outs, eAllS, eAllN, eMaxD, eGin, eGinT, eGix, eRse, eCal0, drf, sq_tup, sq_lst, sq_scr, sq_str, sq_int, sq_non, l_lst, l_scr, l_tup, lm_lst, lm_str, lm_int, lm_tup, lm_non, lm_bl, eqOk_str, eqOk_int, eqOk_non, deq_int, deq_str, two_le, isNonD, tysOf, c_read_statement, N_read_statement, S_len, S_cps, hz, hz4, sp_is_string, spB, hs, sp_parts_of, hp, optL, strD, atI_zero, hF, eis, it_lst, cut_2, cut_02, sp_parameter_numbers, sp_parameters, wipeE, flatD, okItem]
              by_cases hf : formOk w 0 = true
              · have R := read_rest (s := .non) (E := fun _ _ => False) hr hsm hw (show headOk [w] = true from hf) h2
                rw [if_neg fun z => by rw [hn0.mp z] at hf; cases hf]
                simp [strD, flatD, okItem] at R
                exact R
              · have R : finP μ.next Q .non μ := hno (by unfold stmtOf; rw [if_pos (show headOk [w] = false by simpa [headOk] using hf)])
                rw [if_pos (hn0.mpr (by simpa using hf))]
                exact R
            | cons n r =>
              have hn0 := hany (r.length + 1)
              have hnz : n.length ≤ sizeLine := hsm n (by simp)
              simp [startE, wpS, wpT, wpE, wpA, wpI, wpG, wpGs, wpOpt, spLen, spIsi, spInt, spStr, spTup, spLst, spMax, spApp, spFind, spSplit, spJoin, spDget, tn_str, tn_int, tn_bl, tn_non, tn_tup, tn_lst, tn_scr, td_str, td_lst, isB, tys, truD, cmpD, binD, slD, ixD, outs, eAllS, eAllN, eMaxD, eGin, eGinT, eGix, eRse, eCal0, drf, sq_tup, sq_lst, sq_scr, sq_str, sq_int, sq_non, l_lst, l_scr, l_tup, lm_lst, lm_str, lm_int, lm_tup, lm_non, lm_bl, eqOk_str, eqOk_int, eqOk_non, deq_int, deq_str, two_le, isNonD, tysOf, c_read_statement, N_read_statement, S_len, S_cps, hz, hz4, sp_is_string, spB, hs, sp_parts_of, hp, optL, strD, atI_zero, hF, eis, it_lst, cut_2, cut_02, sp_parameter_numbers, sp_parameters, wipeE, flatD, okItem, sp_is_name, hnz, atI_one]
              have hn1 : (∀ x : Int, x ∈ is → ¬ x = (r.length : Int) + 1) ↔ formOk w (r.length + 1) = false := by simpa using hn0
              by_cases hf : formOk w (r.length + 1) = true
              · rw [if_neg (fun z => by rw [hn1.mp z] at hf; cases hf), if_pos (show (1 : Int) < (r.length : Int) + 1 + 1 by omega)]
                by_cases hi : isName n = true
                · rw [if_pos hi]
                  have R := read_rest (s := .non) (E := fun _ _ => False) hr hsm hw (show headOk (w :: n :: r) = true by show (formOk w (r.length + 1) && isName n) = true; rw [hf, hi]; rfl) h2
                  simp [strD, flatD, okItem] at R
                  exact R
                · rw [if_neg hi]
                  refine hno ?_
                  unfold stmtOf
                  rw [if_pos (show headOk (w :: n :: r) = false by show (formOk w (r.length + 1) && isName n) = false; rw [Bool.not_eq_true] at hi; rw [hf, hi]; rfl)]
              · rw [if_pos (hn1.mpr (by simpa using hf))]
                refine hno ?_
                unfold stmtOf
                rw [if_pos (show headOk (w :: n :: r) = false by show (formOk w (r.length + 1) && isName n) = false; rw [Bool.not_eq_true] at hf; rw [hf]; rfl)]
  · exact h.elim
theorem optT_item (n : Nat) (o : Option (List D)) (h : objBs n ((o.getD [])) = true) : objB n (optT o) = true := by
  cases o with
  | none => rfl
  | some ds => exact h
theorem stmtOf_objB (n : Nat) (ps : List (List Nat)) (ds : List D) (h : stmtOf ps = some ds) : objBs n ds = true := by
  unfold stmtOf at h
  split at h
  · cases h
  · split at h
    · cases h
    · dsimp only at h
      split at h
      · cases h
        have ap : ∀ (xs ys : List D), objBs n (xs ++ ys) = (objBs n xs && objBs n ys) := by
          intro xs ys
          induction xs with
          | nil => rfl
          | cons x xs ih =>
            show (objB n x && objBs n (xs ++ ys)) = (objB n x && objBs n xs && objBs n ys)
            rw [ih, Bool.and_assoc]
        have al : ∀ {α : Type} (f : α → D), (∀ a, objB n (f a) = true) → ∀ xs : List α, objBs n (xs.map f) = true := by
          intro α f hf xs
          induction xs with
          | nil => rfl
          | cons x xs ih =>
            show (objB n (f x) && objBs n (xs.map f)) = true
            rw [hf, ih]
            rfl
        rw [ap, al _ (fun _ => rfl), al _ (termOf_objB _)]
        rfl
      · cases h
theorem readS_objB (n : Nat) (l : List Nat) (ds : List D) (h : readS l = some ds) : objBs n ds = true := by
  unfold readS at h
  split at h
  · cases e : partsOf l with
    | none => rw [e] at h; cases h
    | some ps => rw [e] at h; exact stmtOf_objB n ps ds h
  · cases h
theorem w_parse_statement : ∀ ds μ Q QX, μ.wf → objBs μ.next ds = true → sp_parse_statement ds μ Q QX → ds.length = 1 ∧ wpS c_parse_statement (startE N_parse_statement ds) μ (outs μ.next Q QX) := by
  intro ds μ Q QX hw ho h
  unfold sp_parse_statement at h
  split at h
  · rename_i s
    obtain ⟨l, rfl⟩ := of_S s
    obtain ⟨h1, h2⟩ := h
    refine ⟨rfl, ?_⟩
    rw [S_cps] at h2
    rw [S_len] at h1
    cases e : readS l with
    | none =>
      rw [e] at h2
      simp [startE, wpS, wpT, wpE, wpA, wpI, wpG, wpGs, wpOpt, spLen, spIsi, spInt, spStr, spTup, spLst, spMax, spApp, spFind, spSplit, spJoin, spDget, tn_str, tn_int, tn_bl, tn_non, tn_tup, tn_lst, tn_scr, td_str, td_lst, isB, tys, truD, cmpD, binD, slD, ixD, outs, eAllS, eAllN, eMaxD, eGin, eGinT, eGix, eRse, eCal0, drf, sq_tup, sq_lst, sq_scr, sq_str, sq_int, sq_non, l_lst, l_scr, l_tup, lm_lst, lm_str, lm_int, lm_tup, lm_non, lm_bl, eqOk_str, eqOk_int, eqOk_non, deq_int, deq_str, two_le, isNonD, tysOf, c_parse_statement, N_parse_statement, S_len, S_cps, sp_read_statement, h1, e, optT]
      exact ⟨μ, Nat.le_refl _, part_self hw, h2⟩
    | some ds =>
      rw [e] at h2
      simp [startE, wpS, wpT, wpE, wpA, wpI, wpG, wpGs, wpOpt, spLen, spIsi, spInt, spStr, spTup, spLst, spMax, spApp, spFind, spSplit, spJoin, spDget, tn_str, tn_int, tn_bl, tn_non, tn_tup, tn_lst, tn_scr, td_str, td_lst, isB, tys, truD, cmpD, binD, slD, ixD, outs, eAllS, eAllN, eMaxD, eGin, eGinT, eGix, eRse, eCal0, drf, sq_tup, sq_lst, sq_scr, sq_str, sq_int, sq_non, l_lst, l_scr, l_tup, lm_lst, lm_str, lm_int, lm_tup, lm_non, lm_bl, eqOk_str, eqOk_int, eqOk_non, deq_int, deq_str, two_le, isNonD, tysOf, c_parse_statement, N_parse_statement, S_len, S_cps, sp_read_statement, h1, e, optT]
      exact fin_same hw (readS_objB _ l ds e) h2
  · exact h.elim
end M
end

section
set_option Elab.async false
set_option linter.all false
set_option maxRecDepth 100000
set_option maxHeartbeats 4000000
set_option autoImplicit false
/-! the session, as plain data: what the program's stores and sessions compute. -/
namespace M
open PySem PySem.Spec PyProof.Rows L2
open SX (S S_len S_cat)
/-! ### lists of pairs -/
section
variable {α β : Type}
def putA (l : List (Str × α)) (k : Str) (v : α) : List (Str × α) := if (l.any fun t => decide (t.1 = k)) = true then l.map (fun t => if t.1 = k then (t.1, v) else t) else l ++ [(k, v)]
def dropA (l : List (Str × α)) (k : Str) : List (Str × α) := l.filter fun t => decide (t.1 ≠ k)
def getA (l : List (Str × α)) (k : Str) : Option α := (l.find? fun t => decide (t.1 = k)).map (·.2)
def mapK (f : α → D) (l : List (Str × α)) : List (Key × D) := l.map fun t => (.inr t.1, f t.2)
theorem inr_dec (a b : Str) : decide ((Sum.inr a : Key) = Sum.inr b) = decide (a = b) := by
  rw [Bool.eq_iff_iff, decide_eq_true_iff, decide_eq_true_iff]
  exact ⟨fun h => Sum.inr.inj h, fun h => by rw [h]⟩
theorem mapK_get (f : α → D) (k : Str) : ∀ l : List (Str × α), valD (mapK f l) (.inr k) = (getA l k).map f
  | [] => rfl
  | t :: l => by
    unfold valD getA mapK
    rw [List.map_cons, List.find?_cons, List.find?_cons]
    simp only [inr_dec]
    cases h : decide (t.1 = k)
    · exact mapK_get f k l
    · rfl
theorem mapK_any (f : α → D) (k : Str) : ∀ l : List (Str × α), ((mapK f l).any fun kv => decide (kv.1 = .inr k)) = l.any fun t => decide (t.1 = k)
  | [] => rfl
  | t :: l => by
    show (decide ((Sum.inr t.1 : Key) = .inr k) || (mapK f l).any _) = (decide (t.1 = k) || l.any _)
    rw [inr_dec, mapK_any f k l]
theorem mapK_put (f : α → D) (l : List (Str × α)) (k : Str) (v : α) : putD (mapK f l) (.inr k) (f v) = mapK f (putA l k v) := by
  unfold putD putA
  rw [mapK_any]
  split
  · unfold mapK
    rw [List.map_map, List.map_map]
    refine List.map_congr_left fun t _ => ?_
    show (if (Sum.inr t.1 : Key) = .inr k then (Sum.inr t.1, f v) else (Sum.inr t.1, f t.2)) = (fun t => (Sum.inr t.1, f t.2)) (if t.1 = k then (t.1, v) else t)
    by_cases e : t.1 = k
    · rw [if_pos e, if_pos (by rw [e])]
    · rw [if_neg e, if_neg fun z => e (Sum.inr.inj z)]
  · unfold mapK
    rw [List.map_append]
    rfl
theorem mapK_drop (f : α → D) (l : List (Str × α)) (k : Str) : dropD (mapK f l) (.inr k) = mapK f (dropA l k) := by
  unfold dropD dropA mapK
  rw [List.filter_map]
  congr 1
  refine List.filter_congr fun t _ => ?_
  show decide ((Sum.inr t.1 : Key) ≠ .inr k) = decide (t.1 ≠ k)
  rw [Bool.eq_iff_iff, decide_eq_true_iff, decide_eq_true_iff]
  exact ⟨fun h e => h (by rw [e]), fun h e => h (Sum.inr.inj e)⟩
theorem mapK_len (f : α → D) (l : List (Str × α)) : (mapK f l).length = l.length := List.length_map ..
end
/-! ### values, rows, stores -/
abbrev Row := Key × Key
def rowL (r : Row) : List Key := [r.1, r.2]
def tupK (r : List Key) : D := .tup (r.map keyD)
def rowD (r : Row) : D := tupK (rowL r)
abbrev Store := List (Str × List Row)
instance decStore : DecidableEq Store := inferInstance
instance decNamed : DecidableEq (Str × Store) := fun a b => instDecidableEqProd a b
instance decSaves : DecidableEq (List (Str × Store)) := fun a b => instDecidableEqList a b
def tabD (rs : List Row) : D := .tup (rs.map rowD)
def stoK (s : Store) : List (Key × D) := mapK tabD s
def rkK : Key → Rk
  | .inl i => .inl i
  | .inr s => .inr s.cps.toList
def rowKey : D → Rk
  | .tup (k :: _) => match keyOf k with
    | some k => rkK k
    | none => .inl 0
  | _ => .inl 0
def ltK : Key → Key → Bool
  | .inl i, .inl j => decide (i < j)
  | .inl _, .inr _ => true
  | .inr _, .inl _ => false
  | .inr a, .inr b => decide (a.cps.toList < b.cps.toList)
def leK (a b : Key) : Bool := !ltK b a
open PySem.W in
def sortA (rs : List Row) : List Row := rs.mergeSort fun a b => sortLe itemOrd false rowKey (rowD a) (rowD b)
def withoutA (rs : List Row) (k : Key) : List Row := rs.filter fun r => decide (r.1 ≠ k)
/-- rows with rising keys -/
def Rising (rs : List Row) : Prop := rs.Pairwise fun a b => ltK a.1 b.1 = true
/-- a row put where its key stands -/
def putM (rs : List Row) (k e : Key) : List Row :=
  let l := withoutA rs k
  let b := l.filter fun r => ltK r.1 k
  b ++ [(k, e)] ++ l.drop b.length
inductive Ans where
  | wrong (w : Str) | complete (n : Int) | rows (l : List (List Key))
  deriving DecidableEq
inductive Rp where
  | wrong (w : Str) | complete (n : Int) | rows (l : List (List Key)) (more : Bool) | closed | bound | prepared (n : Int) | skipped
  deriving DecidableEq
def rsD (l : List (List Key)) : D := .lst (l.map tupK)
def ansD : Ans → D
  | .wrong w => .tup [.str "wrong", .str w]
  | .complete n => .tup [.str "complete", .int n]
  | .rows l => .tup [.str "rows", rsD l]
def repD : Rp → D
  | .wrong w => .tup [.str "wrong", .str w]
  | .complete n => .tup [.str "complete", .int n]
  | .rows l m => .tup [.str "rows", rsD l, .bl m]
  | .closed => .tup [.str "closed"]
  | .bound => .tup [.str "bound"]
  | .prepared n => .tup [.str "prepared", .int n]
  | .skipped => .tup [.str "skipped"]
def createA (s : Store) (n : Str) : Store × Ans :=
  if (getA s n).isSome = true then (s, .wrong "exists") else if s.length = 4 then (s, .wrong "crowded") else (putA s n [], .complete 0)
def putR (s : Store) (n : Str) (rows : List Row) (k e : Key) : Store × Ans :=
  if 20 < (withoutA rows k).length + 1 then (s, .wrong "full") else (putA s n (putM rows k e), .complete 1)
def delR (s : Store) (n : Str) (rows : List Row) (k : Key) : Store × Ans := (putA s n (withoutA rows k), .complete ((rows.length : Int) - (withoutA rows k).length))
def foundA (w : Str) (rows : List Row) (vs : List Key) : List (List Key) :=
  if w = "total" then [[.inl rows.length]]
  else if w = "get" then match vs with
    | k :: _ => (rows.filter fun r => decide (r.1 = k)).map rowL
    | [] => []
  else match vs with
    | lo :: hi :: _ => (rows.filter fun r => leK lo r.1 && leK r.1 hi).map rowL
    | _ => rows.map rowL
def doR (s : Store) (w n : Str) (vs : List Key) (rows : List Row) : Store × Ans :=
  if w = "drop" then (dropA s n, .complete rows.length)
  else if w = "put" then match vs with
    | k :: e :: _ => putR s n rows k e
    | _ => (s, .wrong "")
  else if w = "delete" then match vs with
    | k :: _ => delR s n rows k
    | _ => (s, .wrong "")
  else (s, .rows (foundA w rows vs))
def doA (s : Store) (w n : Str) (vs : List Key) : Store × Ans :=
  if w = "create" then createA s n
  else match getA s n with
    | none => (s, .wrong "no table")
    | some rows => doR s w n vs rows
theorem doA_create {s : Store} {n : Str} {vs : List Key} : doA s "create" n vs = createA s n := by unfold doA; rw [if_pos rfl]
theorem doA_none {s : Store} {w n : Str} {vs : List Key} (hc : ¬ w = "create") (hg : getA s n = none) : doA s w n vs = (s, .wrong "no table") := by unfold doA; rw [if_neg hc, hg]
theorem doA_some {s : Store} {w n : Str} {vs : List Key} {rows : List Row} (hc : ¬ w = "create") (hg : getA s n = some rows) : doA s w n vs = doR s w n vs rows := by unfold doA; rw [if_neg hc, hg]
theorem doR_drop {s : Store} {n : Str} {vs : List Key} {rows : List Row} : doR s "drop" n vs rows = (dropA s n, .complete rows.length) := by unfold doR; rw [if_pos rfl]
theorem doR_put {s : Store} {n : Str} {k e : Key} {rows : List Row} : doR s "put" n [k, e] rows = putR s n rows k e := by unfold doR; rw [if_neg (by decide), if_pos rfl]
theorem doR_delete {s : Store} {n : Str} {k : Key} {rows : List Row} : doR s "delete" n [k] rows = delR s n rows k := by unfold doR; rw [if_neg (by decide), if_neg (by decide), if_pos rfl]
theorem doR_found {s : Store} {w n : Str} {vs : List Key} {rows : List Row} (h2 : ¬ w = "drop") (h3 : ¬ w = "put") (h4 : ¬ w = "delete") : doR s w n vs rows = (s, .rows (foundA w rows vs)) := by unfold doR; rw [if_neg h2, if_neg h3, if_neg h4]
/-! ### statements -/
inductive Tm where
  | num (i : Int) | txt (l : List Nat) | par (n : Int)
  deriving DecidableEq
def tmD : Tm → D
  | .num i => .int i
  | .txt l => txtD l
  | .par n => parD n
inductive Stm where
  | bare (w : Str) | on (w n : Str) (ts : List Tm)
  deriving DecidableEq
def stmL : Stm → List D
  | .bare w => [.str w]
  | .on w n ts => .str w :: .str n :: ts.map tmD
def stmD (st : Stm) : D := .tup (stmL st)
def wordS : Stm → Str
  | .bare w => w
  | .on w _ _ => w
def parA : Tm → Option Int
  | .par n => some n
  | _ => none
def parsS : Stm → List Int
  | .bare _ => []
  | .on _ _ ts => ts.filterMap parA
def needS (st : Stm) : Int := maxI 0 (parsS st)
/-- what reading gives -/
def stmOkA : Stm → Prop
  | .bare w => w = "begin" ∨ w = "commit" ∨ w = "rollback"
  | .on w _ ts => (∀ t ∈ ts, ∀ n, parA t = some n → 1 ≤ n ∧ n ≤ 4) ∧
      ((w = "create" ∨ w = "drop" ∨ w = "total" ∨ w = "save" ∨ w = "undo" ∨ w = "scan") ∧ ts.length = 0 ∨ (w = "delete" ∨ w = "get") ∧ ts.length = 1 ∨ (w = "put" ∨ w = "scan") ∧ ts.length = 2)
def fillA (vs : List Key) : Tm → Key
  | .num i => .inl i
  | .txt l => .inr (S l)
  | .par n => vs[n.toNat - 1]?.getD (.inl 0)
def fillL (st : Stm) (vs : List Key) : List D := match st with
  | .bare w => [.str w]
  | .on w n ts => .str w :: .str n :: (ts.map (fillA vs)).map keyD
/-! ### sessions -/
structure CS where
  store : Store
  base : Store
  mode : Str
  saves : List (Str × Store)
instance : DecidableEq CS := fun a b => if h : a.store = b.store ∧ a.base = b.base ∧ a.mode = b.mode ∧ a.saves = b.saves then isTrue (by cases a; cases b; simp_all) else isFalse fun e => h (by rw [e]; exact ⟨rfl, rfl, rfl, rfl⟩)
structure Port where
  st : Stm
  vals : List Key
  rows : Option (List (List Key))
  done : Bool
instance : DecidableEq Port := fun a b => if h : a.st = b.st ∧ a.vals = b.vals ∧ a.rows = b.rows ∧ a.done = b.done then isTrue (by cases a; cases b; simp_all) else isFalse fun e => h (by rw [e]; exact ⟨rfl, rfl, rfl, rfl⟩)
structure SS where
  c : CS
  stms : List (Str × Stm)
  ports : List (Str × Port)
instance : DecidableEq SS := fun a b => if h : a.c = b.c ∧ a.stms = b.stms ∧ a.ports = b.ports then isTrue (by cases a; cases b; simp_all) else isFalse fun e => h (by rw [e]; exact ⟨rfl, rfl, rfl⟩)
def endC (c : CS) (w : Str) : CS × Bool × Ans :=
  if w = "commit" ∧ c.mode ≠ "failed" then (⟨c.store, c.store, "none", []⟩, true, .complete 0)
  else (⟨c.base, c.base, "none", []⟩, true, if w = "commit" ∧ c.mode = "failed" then .wrong "rolled back" else .complete 0)
def saveC (c : CS) (n : Str) : CS × Bool × Ans := if c.saves.length = 10 then (c, false, .wrong "crowded") else ({ c with saves := c.saves ++ [(n, c.store)] }, false, .complete 0)
/-- the last place of a name, counted from i -/
def lastP {α : Type} (n : Str) : Nat → List (Str × α) → Option Nat
  | _, [] => none
  | i, t :: r => match lastP n (i + 1) r with
    | some k => some k
    | none => if t.1 = n then some i else none
def undoC (c : CS) (n : Str) : CS × Bool × Ans := match lastP n 0 c.saves with
  | none => (c, false, .wrong "no savepoint")
  | some k => match c.saves[k]? with
    | some t => ({ c with store := t.2, saves := c.saves.take (k + 1), mode := "open" }, false, .complete 0)
    | none => (c, false, .complete 0)
def doC (c : CS) (st : Stm) (vs : List Key) : CS × Bool × Ans := match st with
  | .bare w =>
    if w = "begin" then (if c.mode = "open" then (c, false, .wrong "in transaction") else ({ c with mode := "open" }, false, .complete 0))
    else if c.mode = "none" then (c, false, .wrong "no transaction") else endC c w
  | .on w n ts =>
    if w = "save" then (if c.mode = "none" then (c, false, .wrong "no transaction") else saveC c n)
    else if w = "undo" then (if c.mode = "none" then (c, false, .wrong "no transaction") else undoC c n)
    else
      let r := doA c.store w n (ts.map (fillA vs))
      ({ c with store := r.1 }, false, r.2)
def updA {α : Type} (l : List (Str × α)) (k : Str) (v : α) : List (Str × α) := l.map fun t => if t.1 = k then (t.1, v) else t
/-- how many rows a run takes -/
def takeN (rs : List (List Key)) (m : Int) : Nat := if m = 0 then rs.length else m.toNat
def portionA (s : SS) (n : Str) (p : Port) (rs : List (List Key)) (m : Int) : SS × Rp :=
  ({ s with ports := updA s.ports n { p with rows := some (rs.drop (takeN rs m)), done := (rs.drop (takeN rs m)).isEmpty } }, .rows (rs.take (takeN rs m)) (!(rs.drop (takeN rs m)).isEmpty))
def runA (s : SS) (n : Str) (m : Int) : SS × Rp := match getA s.ports n with
  | none => (s, .wrong "no portal")
  | some p =>
    if s.c.mode = "failed" ∧ ¬ (wordS p.st = "commit" ∨ wordS p.st = "rollback" ∨ wordS p.st = "undo") then (s, .wrong "failed")
    else if p.done = true then (s, .wrong "at end")
    else match p.rows with
      | some rs => portionA s n p rs m
      | none =>
        let r := doC s.c p.st p.vals
        let s1 : SS := { s with c := r.1, ports := if r.2.1 = true then [] else s.ports }
        match r.2.2 with
        | .rows rs => portionA s1 n p rs m
        | .complete k => ({ s1 with ports := updA s1.ports n { p with done := true } }, .complete k)
        | .wrong w => ({ s1 with ports := updA s1.ports n { p with done := false } }, .wrong w)
/-- a statement read -/
def readA (l : List Nat) : Option Stm := match readS l with
  | some (.str w :: .str n :: ds) => some (.on w n (ds.filterMap fun d => match d with
    | .int i => some (.num i)
    | .tup [.str k, .str t] => some (.txt t.cps.toList)
    | .tup [.str k, .int n] => some (.par n)
    | _ => none))
  | some [.str w] => some (.bare w)
  | _ => none
def prepareA (s : SS) (n z : Str) : SS × Rp :=
  if (getA s.stms n).isSome = true then (s, .wrong "taken") else if s.stms.length = 8 then (s, .wrong "crowded")
  else match readA z.cps.toList with
    | none => (s, .wrong "unreadable")
    | some st => ({ s with stms := putA s.stms n st }, .prepared (needS st))
def bindA (s : SS) (p n : Str) (vs : List Key) : SS × Rp :=
  if (getA s.ports p).isSome = true then (s, .wrong "taken") else if s.ports.length = 8 then (s, .wrong "crowded")
  else match getA s.stms n with
    | none => (s, .wrong "no statement")
    | some st => if (vs.length : Int) ≠ needS st then (s, .wrong "values") else ({ s with ports := putA s.ports p ⟨st, vs, none, false⟩ }, .bound)
inductive Cmd where
  | prepare (n z : Str) | bind (p n : Str) (vs : List Key) | run (n : Str) (m : Int) | forget (n : Str) | close (n : Str)
def cmdA (s : SS) : Cmd → SS × Rp
  | .prepare n z => prepareA s n z
  | .bind p n vs => bindA s p n vs
  | .run n m => runA s n m
  | .forget n => ({ s with stms := dropA s.stms n }, .closed)
  | .close n => ({ s with ports := dropA s.ports n }, .closed)
def isWrong : Rp → Bool
  | .wrong _ => true
  | _ => false
def replyA (s : SS) (c : Cmd) : SS × Rp :=
  let r := cmdA s c
  if isWrong r.2 = true then (if r.1.c.mode = "none" then ({ r.1 with c := { r.1.c with store := r.1.c.base }, ports := [] }, r.2) else ({ r.1 with c := { r.1.c with mode := "failed" } }, r.2)) else r
def isBad : Rp → Bool
  | .wrong _ | .skipped => true
  | _ => false
def batchL : SS → List Rp → List Cmd → SS × List Rp
  | s, rs, [] => (s, rs)
  | s, rs, c :: cs => if (rs.getLast?.map isBad).getD false = true then batchL s (rs ++ [.skipped]) cs else batchL (replyA s c).1 (rs ++ [(replyA s c).2]) cs
def closeA (s : SS) : SS := if s.c.mode = "none" then { s with c := { s.c with base := s.c.store }, ports := [] } else s
def batchA (s : SS) (cs : List Cmd) : SS × List Rp := (closeA (batchL s [] cs).1, (batchL s [] cs).2)
end M
end

section
set_option Elab.async false
set_option linter.all false
set_option maxRecDepth 100000
set_option maxHeartbeats 4000000
set_option autoImplicit false
/-! the cells that a proof cares about, one list: each at its own place. -/
namespace M
open PySem PySem.Spec PyProof.Rows L2
abbrev Cells := List (Nat × Cell)
structure HW (μ : Sto) (L : Cells) : Prop where
  wf : μ.wf
  nd : (L.map (·.1)).Nodup
  at_ : ∀ p ∈ L, μ.cell p.1 = some p.2
theorem HW.get {μ : Sto} {L : Cells} (h : HW μ L) {k : Nat} {c : Cell} (m : (k, c) ∈ L) : μ.cell k = some c := h.at_ _ m
theorem HW.lt {μ : Sto} {L : Cells} (h : HW μ L) {k : Nat} {c : Cell} (m : (k, c) ∈ L) : k < μ.next := (h.wf _ _ (h.at_ _ m)).1
theorem HW.bd {μ : Sto} {L : Cells} (h : HW μ L) {k : Nat} {c : Cell} (m : (k, c) ∈ L) : cellB μ.next c = true := (h.wf _ _ (h.at_ _ m)).2
theorem HW.sub {μ : Sto} {L L' : Cells} (h : HW μ L) (s : L'.Sublist L) : HW μ L' := ⟨h.wf, (s.map _).nodup h.nd, fun p m => h.at_ p (s.subset m)⟩
theorem HW.perm {μ : Sto} {L L' : Cells} (h : HW μ L) (s : L.Perm L') : HW μ L' := ⟨h.wf, (s.map _).nodup_iff.mp h.nd, fun p m => h.at_ p (s.mem_iff.mpr m)⟩
theorem wf_put {μ : Sto} {k : Nat} {c : Cell} (h : μ.wf) (hk : k < μ.next) (hc : cellB μ.next c = true) : (μ.put k c).wf := fun j d e => by
  by_cases hj : j = k
  · subst hj
    rw [Sto.put_same] at e
    cases e
    exact ⟨hk, hc⟩
  · rw [Sto.put_ne hj] at e
    exact h j d e
mutual
theorem objB_up {n m : Nat} (h : n ≤ m) : ∀ {d : D}, objB n d = true → objB m d = true
  | .non, _ | .bl _, _ | .int _, _ | .str _, _ | .ty _, _ => rfl
  | .tup _, e => objBs_up h e
  | .lst _, e => objBs_up h e
  | .scr _, e => objBs_up h e
  | .obj _, e => decide_eq_true (Nat.lt_of_lt_of_le (of_decide_eq_true e) h)
theorem objBs_up {n m : Nat} (h : n ≤ m) : ∀ {ds : List D}, objBs n ds = true → objBs m ds = true
  | [], _ => rfl
  | _ :: _, e => by
    have e : (objB n _ && objBs n _) = true := e
    rw [Bool.and_eq_true] at e
    show (objB m _ && objBs m _) = true
    rw [objB_up h e.1, objBs_up h e.2]
    rfl
end
theorem cellB_up {n m : Nat} (h : n ≤ m) {c : Cell} (e : cellB n c = true) : cellB m c = true := by
  cases c with
  | lst ds => exact objBs_up h (ds := ds) e
  | dct kvs => exact objBs_up h (ds := kvs.map Prod.snd) e
  | lck kvs _ _ => exact objBs_up h (ds := kvs.map Prod.snd) e
  | ins _ fs => exact objBs_up h (ds := fs.map Prod.snd) e
theorem wf_new {μ : Sto} {c : Cell} (h : μ.wf) (hc : cellB (μ.next + 1) c = true) : (μ.new c).wf := fun j d e => by
  by_cases hj : j = μ.next
  · subst hj
    rw [Sto.new_same] at e
    cases e
    exact ⟨Nat.lt_succ_self _, hc⟩
  · rw [Sto.new_ne hj] at e
    exact ⟨Nat.lt_succ_of_lt (h j d e).1, cellB_up (Nat.le_succ _) (h j d e).2⟩
theorem HW.put {μ : Sto} {A B : Cells} {k : Nat} {c c' : Cell} (h : HW μ (A ++ (k, c) :: B)) (hc : cellB μ.next c' = true) : HW (μ.put k c') (A ++ (k, c') :: B) := by
  have hk : k < μ.next := h.lt (c := c) (by simp)
  have nd := h.nd
  rw [List.map_append, List.map_cons, List.nodup_append] at nd
  obtain ⟨_, n2, n3⟩ := nd
  have n2 : k ∉ B.map (·.1) := (List.nodup_cons.mp n2).1
  refine ⟨wf_put h.wf hk hc, by have := h.nd; simpa using this, fun p m => ?_⟩
  rcases List.mem_append.mp m with m | m
  · rw [Sto.put_ne fun e => n3 p.1 (List.mem_map_of_mem m) k (by simp) e]
    exact h.at_ p (by simp [m])
  · rcases List.mem_cons.mp m with rfl | m
    · exact Sto.put_same
    · rw [Sto.put_ne fun e => n2 (by rw [← e]; exact List.mem_map_of_mem m)]
      exact h.at_ p (by simp [m])
theorem HW.new {μ : Sto} {A B : Cells} {c : Cell} (h : HW μ (A ++ B)) (hc : cellB (μ.next + 1) c = true) : HW (μ.new c) (A ++ (μ.next, c) :: B) := by
  have nn : ∀ p ∈ A ++ B, p.1 ≠ μ.next := fun p m => Nat.ne_of_lt (h.wf _ _ (h.at_ p m)).1
  have base : HW (μ.new c) ((μ.next, c) :: (A ++ B)) := by
    refine ⟨wf_new h.wf hc, ?_, fun p m => ?_⟩
    · rw [List.map_cons, List.nodup_cons]
      refine ⟨fun z => ?_, h.nd⟩
      obtain ⟨p, m, e⟩ := List.mem_map.mp z
      exact nn p m e
    · rcases List.mem_cons.mp m with rfl | m
      · exact Sto.new_same
      · rw [Sto.new_ne (nn p m)]
        exact h.at_ p m
  exact base.perm List.perm_middle.symm
theorem HW.drop {μ : Sto} {A B : Cells} {p : Nat × Cell} (h : HW μ (A ++ p :: B)) : HW μ (A ++ B) := h.sub (List.Sublist.append (List.Sublist.refl _) (List.sublist_cons_self _ _))
/-- the end of a def that keeps all its cells -/
theorem fin_all {n : Nat} {μ : Sto} {Q : Post} {d : D} (hw : μ.wf) (hn : n ≤ μ.next) (ho : objB μ.next d = true) (h : Q d μ) : finP n Q d μ := ⟨μ, hn, part_self hw, ho, h⟩
/-! ### plain data hold no cell -/
theorem keyD_B (n : Nat) (k : Key) : objB n (keyD k) = true := by cases k <;> rfl
theorem objBs_all {n : Nat} : ∀ {ds : List D}, (∀ d ∈ ds, objB n d = true) → objBs n ds = true
  | [], _ => rfl
  | d :: ds, h => by
    show (objB n d && objBs n ds) = true
    rw [h d (by simp), objBs_all fun x m => h x (by simp [m])]
    rfl
theorem objBs_map {α : Type} {n : Nat} {f : α → D} {l : List α} (h : ∀ x ∈ l, objB n (f x) = true) : objBs n (l.map f) = true := objBs_all fun d m => by
  obtain ⟨x, hx, rfl⟩ := List.mem_map.mp m
  exact h x hx
theorem tupK_B (n : Nat) (r : List Key) : objB n (tupK r) = true := objBs_map fun k _ => keyD_B n k
theorem tabD_B (n : Nat) (rs : List Row) : objB n (tabD rs) = true := objBs_map fun r _ => tupK_B n _
theorem rsD_B (n : Nat) (l : List (List Key)) : objB n (rsD l) = true := objBs_map fun r _ => tupK_B n _
theorem tmD_B (n : Nat) (t : Tm) : objB n (tmD t) = true := by cases t <;> rfl
theorem stmD_B (n : Nat) (st : Stm) : objB n (stmD st) = true := by
  cases st with
  | bare w => rfl
  | on w x ts => exact objBs_map (n := n) (f := tmD) (l := ts) fun t _ => tmD_B n t
theorem ansD_B (n : Nat) (a : Ans) : objB n (ansD a) = true := by
  cases a with
  | rows l =>
    show (true && (objB n (rsD l) && true)) = true
    rw [rsD_B]
    rfl
  | _ => rfl
theorem repD_B (n : Nat) (a : Rp) : objB n (repD a) = true := by
  cases a with
  | rows l m =>
    show (true && (objB n (rsD l) && (true && true))) = true
    rw [rsD_B]
    rfl
  | _ => rfl
theorem mapK_B {α : Type} {n : Nat} {f : α → D} {l : List (Str × α)} (h : ∀ x, objB n (f x) = true) : cellB n (.dct (mapK f l)) = true := by
  show objBs n ((mapK f l).map (·.2)) = true
  unfold mapK
  rw [List.map_map]
  exact objBs_map fun x _ => h x.2
theorem stoK_B (n : Nat) (s : Store) : cellB n (.dct (stoK s)) = true := mapK_B fun x => tabD_B n x
/-! ### equality of values -/
theorem deq_key (a b : Key) : deq (keyD a) (keyD b) = decide (a = b) := by
  cases a with
  | inl i => cases b with
    | inl j =>
      show deq (.int i) (.int j) = _
      rw [deq_int, Bool.eq_iff_iff, decide_eq_true_iff, decide_eq_true_iff]
      exact ⟨fun h => by rw [h], fun h => Sum.inl.inj h⟩
    | inr t => rfl
  | inr s => cases b with
    | inl j => rfl
    | inr t =>
      show deq (.str s) (.str t) = _
      rw [deq_str, inr_dec]
theorem drf_key (a : Key) (μ : Sto) : drf (keyD a) μ = keyD a := by cases a <;> rfl
theorem eqOk_key (a : Key) : eqOk (keyD a) = true := by cases a <;> rfl
theorem keyOf_key (a : Key) : keyOf (keyD a) = some a := by cases a <;> rfl
theorem rowKey_row (r : Row) : rowKey (rowD r) = rkK r.1 := by
  show (match keyOf (keyD r.1) with | some k => rkK k | none => .inl 0) = _
  rw [keyOf_key]
end M
end

section
set_option Elab.async false
set_option linter.all false
set_option maxRecDepth 100000
set_option maxHeartbeats 4000000
set_option autoImplicit false
/-! rows in the order of their keys: what sorting a table with one new row gives. -/
namespace M
open PySem PySem.Spec PyProof.Rows L2
theorem blt_key (a b : Key) : itemOrd.blt (rkK a) (rkK b) = ltK a b := by
  cases a <;> cases b <;> rfl
theorem rkK_inj {a b : Key} (h : rkK a = rkK b) : a = b := by
  cases a with
  | inl i => cases b with
    | inl j => cases h; rfl
    | inr t => cases h
  | inr s => cases b with
    | inl j => cases h
    | inr t =>
      have h : s.cps.toList = t.cps.toList := Sum.inr.inj h
      have : s = t := by
        cases s
        cases t
        congr 1
        exact Array.toList_inj.mp h
      rw [this]
theorem ltK_irrefl (a : Key) : ltK a a = false := by rw [← blt_key]; exact itemOrd.irrefl _
theorem ltK_trans {a b c : Key} (h1 : ltK a b = true) (h2 : ltK b c = true) : ltK a c = true := by
  rw [← blt_key] at *
  exact itemOrd.trans _ _ _ h1 h2
theorem ltK_tri {a b : Key} (h1 : ltK a b = false) (h2 : ltK b a = false) : a = b := by
  rw [← blt_key] at h1 h2
  exact rkK_inj (itemOrd.total _ _ h1 h2)
theorem ltK_asymm {a b : Key} (h : ltK a b = true) : ltK b a = false := by
  cases e : ltK b a with
  | false => rfl
  | true =>
    have := ltK_trans h e
    rw [ltK_irrefl] at this
    cases this
theorem le_row (a b : Row) : PySem.W.sortLe itemOrd false rowKey (rowD a) (rowD b) = leK a.1 b.1 := by
  show (!itemOrd.blt (rowKey (rowD b)) (rowKey (rowD a))) = !ltK b.1 a.1
  rw [rowKey_row, rowKey_row, blt_key]
theorem split_filter {p : Row → Bool} : ∀ {l : List Row}, l.Pairwise (fun a b => p b = true → p a = true) → l = l.filter p ++ l.drop (l.filter p).length ∧ ∀ r ∈ l.drop (l.filter p).length, p r = false
  | [], _ => ⟨rfl, fun r h => by cases h⟩
  | a :: l, h => by
    obtain ⟨h1, h2⟩ := List.pairwise_cons.mp h
    obtain ⟨i1, i2⟩ := split_filter h2
    by_cases e : p a = true
    · rw [List.filter_cons, if_pos e, List.length_cons, List.drop_succ_cons]
      exact ⟨by rw [List.cons_append, ← i1], i2⟩
    · have no : ∀ b ∈ l, p b = false := fun b m => by
        cases q : p b with
        | false => rfl
        | true => exact absurd (h1 b m q) e
      have e2 : l.filter p = [] := List.filter_eq_nil_iff.mpr fun b m => by rw [no b m]; simp
      rw [List.filter_cons, if_neg e, e2]
      refine ⟨rfl, fun r m => ?_⟩
      rcases List.mem_cons.mp m with rfl | m
      · simpa using e
      · exact no r m
theorem putM_ok {rs : List Row} {k e : Key} (h : Rising rs) : Rising (putM rs k e) ∧ (putM rs k e).Perm (withoutA rs k ++ [(k, e)]) := by
  have hl : Rising (withoutA rs k) := h.sublist List.filter_sublist
  have hk : ∀ r ∈ withoutA rs k, r.1 ≠ k := fun r m => by simpa using (List.mem_filter.mp m).2
  unfold putM
  dsimp only
  generalize withoutA rs k = l at hl hk
  obtain ⟨s1, s2⟩ := split_filter (p := fun r => ltK r.1 k) (l := l) (hl.imp fun {a b} hab hb => ltK_trans hab hb)
  have hb : ∀ r ∈ l.filter (fun r => ltK r.1 k), ltK r.1 k = true := fun r m => (List.mem_filter.mp m).2
  generalize l.filter (fun r => ltK r.1 k) = b at s1 s2 hb ⊢
  generalize hd : l.drop b.length = d at s1 s2 ⊢
  have hl2 : (b ++ d).Pairwise (fun a b => ltK a.1 b.1 = true) := by rw [← s1]; exact hl
  obtain ⟨p1, p2, p3⟩ := List.pairwise_append.mp hl2
  have hdk : ∀ r ∈ d, ltK k r.1 = true := fun r m => by
    have e1 := s2 r m
    cases q : ltK k r.1 with
    | true => rfl
    | false => exact absurd (ltK_tri e1 q) (hk r (by rw [s1]; simp [m]))
  refine ⟨?_, ?_⟩
  · show (b ++ [(k, e)] ++ d).Pairwise _
    rw [List.append_assoc, List.pairwise_append]
    refine ⟨p1, ?_, fun x hx y hy => ?_⟩
    · rw [List.singleton_append, List.pairwise_cons]
      exact ⟨fun r m => hdk r m, p2⟩
    · rcases List.mem_append.mp hy with hy | hy
      · rw [List.mem_singleton] at hy
        subst hy
        exact hb x hx
      · exact p3 x hx y hy
  · rw [s1, List.append_assoc, List.append_assoc]
    exact List.Perm.append_left b List.perm_append_comm
theorem sortA_put {rs : List Row} {k e : Key} (h : Rising rs) : sortA (withoutA rs k ++ [(k, e)]) = putM rs k e := by
  obtain ⟨h1, h2⟩ := putM_ok (k := k) (e := e) h
  have T := PySem.W.sortLe_total itemOrd false (rowKey ∘ rowD)
  have hs : (sortA (withoutA rs k ++ [(k, e)])).Pairwise (fun a b => leK a.1 b.1 = true) := by
    have := List.pairwise_mergeSort (le := fun a b => PySem.W.sortLe itemOrd false rowKey (rowD a) (rowD b)) (fun a b c => T.trans a b c) (fun a b => by
      rw [Bool.or_eq_true]
      exact T.total a b) (withoutA rs k ++ [(k, e)])
    refine this.imp fun {a b} hab => ?_
    rw [← le_row]
    exact hab
  have hp : (sortA (withoutA rs k ++ [(k, e)])).Perm (putM rs k e) := (List.mergeSort_perm _ _).trans h2.symm
  have hle : (putM rs k e).Pairwise (fun a b => leK a.1 b.1 = true) := h1.imp fun {a b} hab => by
    unfold leK
    rw [ltK_asymm hab]
    rfl
  refine List.Perm.eq_of_pairwise (le := fun a b => leK a.1 b.1 = true) (fun a b ha hb hab hba => ?_) hs hle hp
  have e1 : a.1 = b.1 := by
    unfold leK at hab hba
    exact ltK_tri (by simpa using hba) (by simpa using hab)
  -- two rows with one key are one row
  have ha : a ∈ putM rs k e := hp.mem_iff.mp ha
  clear hs hp hle hab hba h2
  have uniq : ∀ {l : List Row}, Rising l → a ∈ l → b ∈ l → a = b := by
    intro l
    induction l with
    | nil => intro _ m _; cases m
    | cons x l ih =>
      intro hr ma mb
      obtain ⟨q1, q2⟩ := List.pairwise_cons.mp hr
      rcases List.mem_cons.mp ma with rfl | ma2
      · rcases List.mem_cons.mp mb with rfl | mb2
        · rfl
        · have := q1 b mb2
          rw [e1, ltK_irrefl] at this
          cases this
      · rcases List.mem_cons.mp mb with rfl | mb2
        · have := q1 a ma2
          rw [e1, ltK_irrefl] at this
          cases this
        · exact ih q2 ma2 mb2
  exact uniq h1 ha hb
theorem putM_len (rs : List Row) (k e : Key) : (putM rs k e).length = (withoutA rs k).length + 1 := by
  unfold putM
  dsimp only
  have := List.length_filter_le (fun r : Row => ltK r.1 k) (withoutA rs k)
  rw [List.length_append, List.length_append, List.length_singleton, List.length_drop]
  omega
end M
end

section
set_option Elab.async false
set_option linter.all false
set_option maxRecDepth 100000
set_option maxHeartbeats 4000000
set_option autoImplicit false
/-! what the defs of stores and sessions do. -/
namespace M
open PySem PySem.Spec PyProof.Rows L2
def All2 {α β : Type} (R : α → β → Prop) : List α → List β → Prop
  | [], [] => True
  | a :: l, b :: m => R a b ∧ All2 R l m
  | _, _ => False
def spD (sp : Spec) (dd : List D) : Spec := fun ds μ Q E => sp (ds ++ dd) μ Q E
def SeqOf (d : D) (ds : List D) : Prop := d = .tup ds ∨ d = .lst ds
def stoOk (s : Store) : Prop := s.length ≤ 4 ∧ ∀ t ∈ s, t.2.length ≤ 20 ∧ Rising t.2
def sp_rank : Spec := fun ds μ Q _ => match ds with
  | [d] => ∃ k, d = keyD k ∧ Q (rkT (rkK k)) μ
  | _ => False
def sp_without : Spec := fun ds μ Q _ => match ds with
  | [r, k] => ∃ rows key, SeqOf r (rows.map rowD) ∧ k = keyD key ∧ rows.length ≤ 1000 ∧ Q (.lst ((withoutA rows key).map rowD)) μ
  | _ => False
def sp_create : Spec := fun ds μ Q _ => match ds with
  | [.obj j, .str n] => ∃ s, μ.cell j = some (.dct (stoK s)) ∧ stoOk s ∧ Q (ansD (createA s n).2) (μ.put j (.dct (stoK (createA s n).1)))
  | _ => False
def sp_put : Spec := fun ds μ Q _ => match ds with
  | [.obj j, .str n, k, e] => ∃ s rows key ent, μ.cell j = some (.dct (stoK s)) ∧ stoOk s ∧ getA s n = some rows ∧ k = keyD key ∧ e = keyD ent ∧ Q (ansD (putR s n rows key ent).2) (μ.put j (.dct (stoK (putR s n rows key ent).1)))
  | _ => False
def sp_delete : Spec := fun ds μ Q _ => match ds with
  | [.obj j, .str n, k] => ∃ s rows key, μ.cell j = some (.dct (stoK s)) ∧ stoOk s ∧ getA s n = some rows ∧ k = keyD key ∧ Q (ansD (delR s n rows key).2) (μ.put j (.dct (stoK (delR s n rows key).1)))
  | _ => False
def fndOk (w : Str) (vs : List Key) : Prop := w = "total" ∧ vs.length = 0 ∨ w = "get" ∧ vs.length = 1 ∨ w = "scan" ∧ (vs.length = 0 ∨ vs.length = 2)
def sp_found : Spec := fun ds μ Q _ => match ds with
  | [.obj j, .str w, .str n, v] => ∃ s rows vs, μ.cell j = some (.dct (stoK s)) ∧ stoOk s ∧ getA s n = some rows ∧ v = .lst (vs.map keyD) ∧ fndOk w vs ∧ Q (ansD (.rows (foundA w rows vs))) μ
  | _ => False
def doOk (w : Str) (vs : List Key) : Prop := (w = "create" ∨ w = "drop") ∧ vs.length = 0 ∨ w = "put" ∧ vs.length = 2 ∨ w = "delete" ∧ vs.length = 1 ∨ fndOk w vs
def sp_do : Spec := fun ds μ Q _ => match ds with
  | [.obj j, p] => ∃ s w n vs, μ.cell j = some (.dct (stoK s)) ∧ stoOk s ∧ p = .lst (.str w :: .str n :: vs.map keyD) ∧ doOk w vs ∧ Q (ansD (doA s w n vs).2) (μ.put j (.dct (stoK (doA s w n vs).1)))
  | _ => False
def sp_filled : Spec := fun ds μ Q _ => match ds with
  | [p, v] => ∃ st vs, p = stmD st ∧ v = .tup (vs.map keyD) ∧ stmOkA st ∧ needS st ≤ vs.length ∧ Q (.lst (fillL st vs)) μ
  | _ => False
/-- tables, as pairs of a name and rows, of tuples or lists -/
def TabsR (tds : List D) (s : Store) : Prop := All2 (fun td t => ∃ rd rds, SeqOf td [.str t.1, rd] ∧ SeqOf rd rds ∧ All2 (fun r row => SeqOf r ((rowL row).map keyD)) rds t.2) tds s
def sp_store_of : Spec := fun ds μ Q _ => match ds with
  | [d] => ∃ tds s, SeqOf d tds ∧ TabsR tds s ∧ stoOk s ∧ (s.map (·.1)).Nodup ∧ Q (.obj μ.next) (μ.new (.dct (stoK s)))
  | _ => False
def tabsD (s : Store) : D := .lst (s.map fun t => .tup [.str t.1, .lst (t.2.map rowD)])
def sp_tables_of : Spec := fun ds μ Q _ => match ds with
  | [.obj j] => ∃ s, μ.cell j = some (.dct (stoK s)) ∧ stoOk s ∧ Q (tabsD s) μ
  | _ => False
def sp_Portal___init__ : Spec := fun ds μ Q _ => match ds with
  | [.obj k, p, v] => μ.cell k = some (.ins 10 []) ∧ Q .non (μ.put k (.ins 10 [("parts", p), ("given", v), ("rows", .non), ("is_done", .bl false)]))
  | _ => False
/-! ### the session's cells -/
structure RS where
  (a b c d e : Nat)
  store : Store
  base : Store
  mode : Str
  saves : List (Str × Nat × Store)
  stms : List (Str × Stm)
  ports : List (Str × Nat × Port)
def RS.core (R : RS) : CS := ⟨R.store, R.base, R.mode, R.saves.map fun t => (t.1, t.2.2)⟩
def RS.abs (R : RS) : SS := ⟨R.core, R.stms, R.ports.map fun t => (t.1, t.2.2)⟩
def savD (t : Str × Nat × Store) : D := .tup [.str t.1, .obj t.2.1]
def insS (R : RS) : Cell := .ins 11 [("_store", .obj R.a), ("_base", .obj R.b), ("_state", .str R.mode), ("_savepoints", .obj R.c), ("_statements", .obj R.d), ("_portals", .obj R.e)]
def rowsD : Option (List (List Key)) → D
  | none => .non
  | some l => rsD l
def portC (p : Port) : Cell := .ins 10 [("parts", stmD p.st), ("given", tupK p.vals), ("rows", rowsD p.rows), ("is_done", .bl p.done)]
def savesC (R : RS) : Cells := R.saves.map fun t => (t.2.1, .dct (stoK t.2.2))
def portsC (R : RS) : Cells := R.ports.map fun t => (t.2.1, portC t.2.2)
def coreC (j : Nat) (R : RS) : Cells := (j, insS R) :: (R.a, .dct (stoK R.store)) :: (R.b, .dct (stoK R.base)) :: (R.c, .lst (R.saves.map savD)) :: (R.d, .dct (mapK stmD R.stms)) :: (R.e, .dct (mapK (fun t : Nat × Port => .obj t.1) R.ports)) :: savesC R
def allC (j : Nat) (R : RS) : Cells := coreC j R ++ portsC R
def okC (c : CS) : Prop := stoOk c.store ∧ stoOk c.base ∧ (c.mode = "none" ∨ c.mode = "open" ∨ c.mode = "failed") ∧ c.saves.length ≤ 10 ∧ ∀ t ∈ c.saves, stoOk t.2
def okP (p : Port) : Prop := stmOkA p.st ∧ (p.vals.length : Int) = needS p.st ∧ ∀ l, p.rows = some l → l.length ≤ 20
structure okSS (s : SS) : Prop where
  c : okC s.c
  sl : s.stms.length ≤ 8
  st : ∀ t ∈ s.stms, stmOkA t.2
  pl : s.ports.length ≤ 8
  pn : (s.ports.map (·.1)).Nodup
  po : ∀ t ∈ s.ports, okP t.2
def relC (R R' : RS) (r : CS × Bool × Ans) : Prop := R'.core = r.1 ∧ R'.stms = R.stms ∧ R'.ports = if r.2.1 = true then [] else R.ports
/-- what a method of the core promises -/
def postC (j : Nat) (R : RS) (F : Cells) (μ : Sto) (r : CS × Bool × Ans) (Q : Post) : Prop := ∀ μ' R', HW μ' (coreC j R' ++ F) → relC R R' r → μ.next ≤ μ'.next → Q (ansD r.2.2) μ'
def postS (j : Nat) (F : Cells) (μ : Sto) (r : SS × Rp) (Q : Post) : Prop := ∀ μ' R', HW μ' (allC j R' ++ F) → R'.abs = r.1 → μ.next ≤ μ'.next → Q (repD r.2) μ'
def sp_Session__begin : Spec := fun ds μ Q _ => match ds with
  | [.obj j] => ∃ R F, HW μ (coreC j R ++ F) ∧ okC R.core ∧ postC j R F μ (doC R.core (.bare "begin") []) Q
  | _ => False
def sp_Session__save : Spec := fun ds μ Q _ => match ds with
  | [.obj j, .str n] => ∃ R F, HW μ (coreC j R ++ F) ∧ okC R.core ∧ postC j R F μ (saveC R.core n) Q
  | _ => False
def sp_Session__undo : Spec := fun ds μ Q _ => match ds with
  | [.obj j, .str n] => ∃ R F, HW μ (coreC j R ++ F) ∧ okC R.core ∧ postC j R F μ (undoC R.core n) Q
  | _ => False
def sp_Session__end : Spec := fun ds μ Q _ => match ds with
  | [.obj j, .str w] => ∃ R F, HW μ (coreC j R ++ F) ∧ okC R.core ∧ postC j R F μ (endC R.core w) Q
  | _ => False
def sp_Session__do : Spec := fun ds μ Q _ => match ds with
  | [.obj j, p] => ∃ R F st vs, HW μ (coreC j R ++ F) ∧ okC R.core ∧ p = .lst (fillL st vs) ∧ stmOkA st ∧ postC j R F μ (doC R.core st vs) Q
  | _ => False
def sp_Session__prepare : Spec := fun ds μ Q _ => match ds with
  | [.obj j, .str n, .str z] => ∃ R F, HW μ (allC j R ++ F) ∧ okSS R.abs ∧ z.length ≤ 1000 ∧ postS j F μ (prepareA R.abs n z) Q
  | _ => False
def sp_Session__bind : Spec := fun ds μ Q _ => match ds with
  | [.obj j, .str p, .str n, v] => ∃ R F vs, HW μ (allC j R ++ F) ∧ okSS R.abs ∧ v = tupK vs ∧ vs.length ≤ 1000 ∧ postS j F μ (bindA R.abs p n vs) Q
  | _ => False
def sp_Session__run : Spec := fun ds μ Q _ => match ds with
  | [.obj j, .str n, .int m] => ∃ R F, HW μ (allC j R ++ F) ∧ okSS R.abs ∧ 0 ≤ m ∧ postS j F μ (runA R.abs n m) Q
  | _ => False
/-- a command, as a tuple or a list -/
def CmdR (d : D) (c : Cmd) : Prop := ∃ ds, SeqOf d ds ∧ match c with
  | .prepare n z => ds = [.str "prepare", .str n, .str z] ∧ z.length ≤ 1000
  | .bind p n vs => ∃ v, ds = [.str "bind", .str p, .str n, v] ∧ SeqOf v (vs.map keyD) ∧ vs.length ≤ 1000
  | .run n m => ds = [.str "run", .str n, .int m] ∧ 0 ≤ m
  | .forget n => ds = [.str "forget", .str n]
  | .close n => ds = [.str "close", .str n]
def sp_Session__run_command : Spec := fun ds μ Q _ => match ds with
  | [.obj j, d] => ∃ R F c, HW μ (allC j R ++ F) ∧ okSS R.abs ∧ CmdR d c ∧ postS j F μ (cmdA R.abs c) Q
  | _ => False
def sp_Session__reply : Spec := fun ds μ Q _ => match ds with
  | [.obj j, d] => ∃ R F c, HW μ (allC j R ++ F) ∧ okSS R.abs ∧ CmdR d c ∧ postS j F μ (replyA R.abs c) Q
  | _ => False
def outD (r : SS × List Rp) : D := .tup [.str r.1.c.mode, .lst (r.2.map repD)]
/-- a list or a tuple, maybe one that is among the cells -/
def SeqC (F : Cells) (d : D) (ds : List D) : Prop := SeqOf d ds ∨ ∃ k, d = .obj k ∧ (k, Cell.lst ds) ∈ F
def sp_Session_run_batch : Spec := fun ds μ Q _ => match ds with
  | [.obj j, d] => ∃ R F cds cs, HW μ (allC j R ++ F) ∧ okSS R.abs ∧ SeqC F d cds ∧ All2 CmdR cds cs ∧ cs.length ≤ 1000 ∧ ∀ μ' R', HW μ' (allC j R' ++ F) → R'.abs = (batchA R.abs cs).1 → μ.next ≤ μ'.next → Q (outD (batchA R.abs cs)) μ'
  | _ => False
def sp_Session_tables : Spec := fun ds μ Q _ => match ds with
  | [.obj j] => ∃ R F, HW μ (coreC j R ++ F) ∧ okC R.core ∧ Q (tabsD R.store) μ
  | _ => False
def sp_Session_base : Spec := fun ds μ Q _ => match ds with
  | [.obj j] => ∃ R F, HW μ (coreC j R ++ F) ∧ okC R.core ∧ Q (tabsD R.base) μ
  | _ => False
def newS (s : Store) : SS := ⟨⟨s, s, "none", []⟩, [], []⟩
def sp_Session___init__ : Spec := fun ds μ Q _ => match ds with
  | [.obj j, d] => ∃ F tds s, HW μ ((j, .ins 11 []) :: F) ∧ SeqOf d tds ∧ TabsR tds s ∧ stoOk s ∧ (s.map (·.1)).Nodup ∧ ∀ μ' R', HW μ' (allC j R' ++ F) → R'.abs = newS s → μ.next ≤ μ'.next → Q .non μ'
  | _ => False
end M
end

section
set_option Elab.async false
set_option linter.all false
set_option maxRecDepth 100000
set_option maxHeartbeats 4000000
set_option autoImplicit false
/-! the terms of stores and sessions (printed by genC.py). -/
namespace M
open PySem PySem.Spec PyProof.Rows L2
def N_rank : List Str := ["value"]
def c_rank : IR := .seq (.ifS (.tV (.cal "isinstance" spIsi (.cons (.var 0) (.cons (.bty "str") .nil)))) (.seq (.ret (.tupC (.cons (.con (.int 1)) (.cons (.var 0) (.nil))))) (.nil)) (.nil)) (.seq (.ret (.tupC (.cons (.con (.int 0)) (.cons (.var 0) (.nil))))) (.nil))
def N_filled : List Str := ["parts", "values", "result", "part"]
def b1_filled : IR := .seq (.ifS (.tAnd (.tV (.cal "isinstance" spIsi (.cons (.var 3) (.cons (.bty "tuple") .nil)))) (.tOne (.cmp .Eq (.ix (.var 3) (.con (.int 0))) (.con (.str "text"))))) (.seq (.exp (.bme "list" "list.append" "append" spApp (.var 2) (.cons (.ix (.var 3) (.con (.int 1))) .nil))) (.nil)) (.seq (.ifS (.tV (.cal "isinstance" spIsi (.cons (.var 3) (.cons (.bty "tuple") .nil)))) (.seq (.exp (.bme "list" "list.append" "append" spApp (.var 2) (.cons (.ix (.var 1) (.bin .Sub (.ix (.var 3) (.con (.int 1))) (.con (.int 1)))) .nil))) (.nil)) (.seq (.exp (.bme "list" "list.append" "append" spApp (.var 2) (.cons (.var 3) .nil))) (.nil))) (.nil))) (.nil)
def c_filled : IR := .seq (.asg (.gN 2) (.cal "list" spLstM (.cons (.sl (.var 0) (.nop) (.con (.int 2))) .nil))) (.seq (.fr (.gN 3) (.itV (.sl (.var 0) (.con (.int 2)) (.nop))) b1_filled) (.seq (.ret (.frz (.var 2))) (.nil)))
def N_store_of : List Str := ["tables", "name", "rows", "row"]
def c_store_of : IR := .seq (.ret (.dcp [("name", 1), ("rows", 2)] (.gT 2 (.cons (.gN 1) (.cons (.gN 2) (.nil)))) (.itV (.var 0)) (.var 1) (.cal "tuple" spTup (.cons (.cpr [("row", 3)] (.gN 3) (.itV (.var 2)) (.nop) (.cal "tuple" spTup (.cons (.var 3) .nil))) .nil)))) (.nil)
def N_tables_of : List Str := ["store", "name", "rows"]
def c_tables_of : IR := .seq (.ret (.lkE 0 (.cpr [("name", 1), ("rows", 2)] (.gT 2 (.cons (.gN 1) (.cons (.gN 2) (.nil)))) (.itm (.var 0)) (.nop) (.tupC (.cons (.var 1) (.cons (.cal "list" spLst (.cons (.var 2) .nil)) .nil)))))) (.nil)
def N_without : List Str := ["rows", "key", "row"]
def c_without : IR := .seq (.ret (.cpr [("row", 2)] (.gN 2) (.itV (.var 0)) (.cmp .NotEq (.ix (.var 2) (.con (.int 0))) (.var 1)) (.var 2))) (.nil)
def N_create : List Str := ["store", "name"]
def c_create : IR := .seq (.ifS (.cmp .In (.var 1) (.var 0)) (.seq (.ret (.tupC (.cons (.con (.str "wrong")) (.cons (.con (.str "exists")) (.nil))))) (.nil)) (.nil)) (.seq (.ifS (.cmp .Eq (.cal "len" spLenD (.cons (.var 0) .nil)) (.glb "MOST_TABLES" (.int 4))) (.seq (.ret (.tupC (.cons (.con (.str "wrong")) (.cons (.con (.str "crowded")) (.nil))))) (.nil)) (.nil)) (.seq (.asg (.gSub (.var 0) (.var 1)) (.tupC (.nil))) (.seq (.ret (.tupC (.cons (.con (.str "complete")) (.cons (.con (.int 0)) (.nil))))) (.nil))))
def N_put : List Str := ["store", "name", "key", "entry", "rows"]
def c_put : IR := .seq (.asg (.gN 4) (.bin .Add (.cal "without" sp_without (.cons (.ix (.var 0) (.var 1)) (.cons (.var 2) .nil))) (.lstC (.cons (.tupC (.cons (.var 2) (.cons (.var 3) .nil))) .nil)))) (.seq (.ifS (.cmp .Gt (.cal "len" spLen (.cons (.var 4) .nil)) (.glb "MOST_ROWS" (.int 20))) (.seq (.ret (.tupC (.cons (.con (.str "wrong")) (.cons (.con (.str "full")) (.nil))))) (.nil)) (.nil)) (.seq (.asg (.gSub (.var 0) (.var 1)) (.cal "tuple" spTup (.cons (.nod (fSrt (.cal "rank" sp_rank (.cons (.ix (.var 0) (.con (.int 0))) .nil))) (eSrt (.cal "rank" sp_rank (.cons (.ix (.var 0) (.con (.int 0))) .nil)) rowKey) (.cons (.var 4) .nil)) .nil))) (.seq (.ret (.tupC (.cons (.con (.str "complete")) (.cons (.con (.int 1)) (.nil))))) (.nil))))
def N_delete : List Str := ["store", "name", "key", "rows", "count"]
def c_delete : IR := .seq (.asg (.gN 3) (.cal "without" sp_without (.cons (.ix (.var 0) (.var 1)) (.cons (.var 2) .nil)))) (.seq (.asg (.gN 4) (.bin .Sub (.cal "len" spLen (.cons (.ix (.var 0) (.var 1)) .nil)) (.cal "len" spLen (.cons (.var 3) .nil)))) (.seq (.asg (.gSub (.var 0) (.var 1)) (.cal "tuple" spTup (.cons (.var 3) .nil))) (.seq (.ret (.tupC (.cons (.con (.str "complete")) (.cons (.var 4) (.nil))))) (.nil))))
def N_found : List Str := ["store", "word", "name", "values", "rows", "low", "high", "row"]
def c_found : IR := .seq (.asg (.gN 4) (.cal "list" spLst (.cons (.ix (.var 0) (.var 2)) .nil))) (.seq (.ifS (.cmp .Eq (.var 1) (.con (.str "total"))) (.seq (.ret (.tupC (.cons (.con (.str "rows")) (.cons (.lstC (.cons (.tupC (.cons (.cal "len" spLen (.cons (.var 4) .nil)) .nil)) .nil)) (.nil))))) (.nil)) (.nil)) (.seq (.ifS (.cmp .Eq (.var 1) (.con (.str "get"))) (.seq (.ret (.tupC (.cons (.con (.str "rows")) (.cons (.cpr [("row", 7)] (.gN 7) (.itV (.var 4)) (.cmp .Eq (.ix (.var 7) (.con (.int 0))) (.ix (.var 3) (.con (.int 0)))) (.var 7)) (.nil))))) (.nil)) (.nil)) (.seq (.ifS (.tV (.var 3)) (.seq (.asg (.gT 2 (.cons (.gN 5) (.cons (.gN 6) (.nil)))) (.tupC (.cons (.cal "rank" sp_rank (.cons (.ix (.var 3) (.con (.int 0))) .nil)) (.cons (.cal "rank" sp_rank (.cons (.ix (.var 3) (.con (.int 1))) .nil)) .nil)))) (.seq (.asc 4 (.cpr [("row", 7)] (.gN 7) (.itV (.var 4)) (.chn .LtE .LtE (.var 5) (.cal "rank" sp_rank (.cons (.ix (.var 7) (.con (.int 0))) .nil)) (.var 6)) (.var 7))) (.nil))) (.nil)) (.seq (.ret (.tupC (.cons (.con (.str "rows")) (.cons (.var 4) (.nil))))) (.nil)))))
def N_do : List Str := ["store", "parts", "word", "name"]
def c_do : IR := .seq (.sno (fPar 2 3) (ePar 2 3) (.cons (.ix (.var 1) (.con (.int 0))) (.cons (.ix (.var 1) (.con (.int 1))) .nil))) (.seq (.ifS (.cmp .Eq (.var 2) (.con (.str "create"))) (.seq (.ret (.cal "create" sp_create (.cons (.var 0) (.cons (.var 3) .nil)))) (.nil)) (.nil)) (.seq (.ifS (.cmp .NotIn (.var 3) (.var 0)) (.seq (.ret (.tupC (.cons (.con (.str "wrong")) (.cons (.con (.str "no table")) (.nil))))) (.nil)) (.nil)) (.seq (.ifS (.cmp .Eq (.var 2) (.con (.str "drop"))) (.seq (.ret (.tupC (.cons (.con (.str "complete")) (.cons (.cal "len" spLen (.cons (.bme "dict" "dict.pop" "pop" spDpop (.var 0) (.cons (.var 3) .nil)) .nil)) (.nil))))) (.nil)) (.nil)) (.seq (.ifS (.cmp .Eq (.var 2) (.con (.str "put"))) (.seq (.ret (.cal "put" sp_put (.cons (.var 0) (.cons (.var 3) (.cons (.ix (.var 1) (.con (.int 2))) (.cons (.ix (.var 1) (.con (.int 3))) .nil)))))) (.nil)) (.nil)) (.seq (.ifS (.cmp .Eq (.var 2) (.con (.str "delete"))) (.seq (.ret (.cal "delete" sp_delete (.cons (.var 0) (.cons (.var 3) (.cons (.ix (.var 1) (.con (.int 2))) .nil))))) (.nil)) (.nil)) (.seq (.ret (.cal "found" sp_found (.cons (.var 0) (.cons (.var 2) (.cons (.var 3) (.cons (.sl (.var 1) (.con (.int 2)) (.nop)) .nil)))))) (.nil)))))))
def N_Portal___init__ : List Str := ["self", "parts", "values"]
def c_Portal___init__ : IR := .seq (.sno (fSet "parts") (eSet [10] "parts") (.cons (.var 1) (.cons (.var 0) .nil))) (.seq (.sno (fSet "given") (eSet [10] "given") (.cons (.var 2) (.cons (.var 0) .nil))) (.seq (.sno (fSet "rows") (eSet [10] "rows") (.cons (.con (.non)) (.cons (.var 0) .nil))) (.seq (.sno (fSet "is_done") (eSet [10] "is_done") (.cons (.con (.bl false)) (.cons (.var 0) .nil))) (.nil))))
def N_Session___init__ : List Str := ["self", "tables"]
def r5_Session___init__ : IR := .seq (.sno (fSet "_portals") (eSet [11] "_portals") (.cons (.nod fDnil eDnil .nil) (.cons (.var 0) .nil))) (.nil)
def r4_Session___init__ : IR := .seq (.sno (fSet "_statements") (eSet [11] "_statements") (.cons (.nod fDnil eDnil .nil) (.cons (.var 0) .nil))) r5_Session___init__
def r3_Session___init__ : IR := .seq (.sno (fSet "_savepoints") (eSet [11] "_savepoints") (.cons (.lstM (.nil)) (.cons (.var 0) .nil))) r4_Session___init__
def r2_Session___init__ : IR := .seq (.sno (fSet "_state") (eSet [11] "_state") (.cons (.con (.str "none")) (.cons (.var 0) .nil))) r3_Session___init__
def r1_Session___init__ : IR := .seq (.sno (fSet "_base") (eSet [11] "_base") (.cons (.cal "dict" spDct (.cons (.nod (fFld "_store") (eFld [11] "_store") (.cons (.var 0) .nil)) .nil)) (.cons (.var 0) .nil))) r2_Session___init__
def c_Session___init__ : IR := .seq (.sno (fSet "_store") (eSet [11] "_store") (.cons (.cal "store_of" sp_store_of (.cons (.var 1) .nil)) (.cons (.var 0) .nil))) r1_Session___init__
def N_Session_tables : List Str := ["self"]
def c_Session_tables : IR := .seq (.ret (.cal "tables_of" sp_tables_of (.cons (.nod (fFld "_store") (eFld [11] "_store") (.cons (.var 0) .nil)) .nil))) (.nil)
def N_Session_run_batch : List Str := ["self", "commands", "replies", "command"]
def b1_Session_run_batch : IR := .seq (.ifS (.tAnd (.tV (.var 2)) (.tOne (.cmp .In (.ix (.ix (.var 2) (.neg (.con (.int 1)))) (.con (.int 0))) (.tupC (.cons (.con (.str "wrong")) (.cons (.con (.str "skipped")) .nil)))))) (.seq (.exp (.bme "list" "list.append" "append" spApp (.var 2) (.cons (.tupC (.cons (.con (.str "skipped")) .nil)) .nil))) (.nil)) (.seq (.exp (.bme "list" "list.append" "append" spApp (.var 2) (.cons (.mcl "_reply" [(11, sp_Session__reply)] (.var 0) (.cons (.var 3) .nil)) .nil))) (.nil))) (.nil)
def r3_Session_run_batch : IR := .seq (.ret (.tupC (.cons (.nod (fFld "_state") (eFld [11] "_state") (.cons (.var 0) .nil)) (.cons (.frz (.var 2)) (.nil))))) (.nil)
def r2_Session_run_batch : IR := .seq (.ifS (.cmp .Eq (.nod (fFld "_state") (eFld [11] "_state") (.cons (.var 0) .nil)) (.con (.str "none"))) (.seq (.sno (fSet "_base") (eSet [11] "_base") (.cons (.cal "dict" spDct (.cons (.nod (fFld "_store") (eFld [11] "_store") (.cons (.var 0) .nil)) .nil)) (.cons (.var 0) .nil))) (.seq (.sno (fSet "_portals") (eSet [11] "_portals") (.cons (.nod fDnil eDnil .nil) (.cons (.var 0) .nil))) (.nil))) (.nil)) r3_Session_run_batch
def r1_Session_run_batch : IR := .seq (.fr (.gN 3) (.itV (.var 1)) b1_Session_run_batch) r2_Session_run_batch
def c_Session_run_batch : IR := .seq (.asg (.gN 2) (.lstM (.nil))) r1_Session_run_batch
def N_Session__reply : List Str := ["self", "command", "reply"]
def r2_Session__reply : IR := .seq (.ret (.var 2)) (.nil)
def r1_Session__reply : IR := .seq (.ifS (.cmp .Eq (.ix (.var 2) (.con (.int 0))) (.con (.str "wrong"))) (.seq (.ifS (.cmp .Eq (.nod (fFld "_state") (eFld [11] "_state") (.cons (.var 0) .nil)) (.con (.str "none"))) (.seq (.sno (fSet "_store") (eSet [11] "_store") (.cons (.cal "dict" spDct (.cons (.nod (fFld "_base") (eFld [11] "_base") (.cons (.var 0) .nil)) .nil)) (.cons (.var 0) .nil))) (.seq (.sno (fSet "_portals") (eSet [11] "_portals") (.cons (.nod fDnil eDnil .nil) (.cons (.var 0) .nil))) (.nil))) (.seq (.sno (fSet "_state") (eSet [11] "_state") (.cons (.con (.str "failed")) (.cons (.var 0) .nil))) (.nil))) (.nil)) (.nil)) r2_Session__reply
def c_Session__reply : IR := .seq (.asg (.gN 2) (.mcl "_run_command" [(11, sp_Session__run_command)] (.var 0) (.cons (.var 1) .nil))) r1_Session__reply
def N_Session__run_command : List Str := ["self", "command"]
def c_Session__run_command : IR := .seq (.ifS (.cmp .Eq (.ix (.var 1) (.con (.int 0))) (.con (.str "prepare"))) (.seq (.ret (.mcl "_prepare" [(11, sp_Session__prepare)] (.var 0) (.cons (.ix (.var 1) (.con (.int 1))) (.cons (.ix (.var 1) (.con (.int 2))) .nil)))) (.nil)) (.nil)) (.seq (.ifS (.cmp .Eq (.ix (.var 1) (.con (.int 0))) (.con (.str "bind"))) (.seq (.ret (.mcl "_bind" [(11, sp_Session__bind)] (.var 0) (.cons (.ix (.var 1) (.con (.int 1))) (.cons (.ix (.var 1) (.con (.int 2))) (.cons (.cal "tuple" spTup (.cons (.ix (.var 1) (.con (.int 3))) .nil)) .nil))))) (.nil)) (.nil)) (.seq (.ifS (.cmp .Eq (.ix (.var 1) (.con (.int 0))) (.con (.str "run"))) (.seq (.ret (.mcl "_run" [(11, sp_Session__run)] (.var 0) (.cons (.ix (.var 1) (.con (.int 1))) (.cons (.ix (.var 1) (.con (.int 2))) .nil)))) (.nil)) (.nil)) (.seq (.ifS (.cmp .Eq (.ix (.var 1) (.con (.int 0))) (.con (.str "forget"))) (.seq (.exp (.bme "dict" "dict.pop" "pop" spDpop (.nod (fFld "_statements") (eFld [11] "_statements") (.cons (.var 0) .nil)) (.cons (.ix (.var 1) (.con (.int 1))) (.cons (.con (.non)) .nil)))) (.nil)) (.seq (.exp (.bme "dict" "dict.pop" "pop" spDpop (.nod (fFld "_portals") (eFld [11] "_portals") (.cons (.var 0) .nil)) (.cons (.ix (.var 1) (.con (.int 1))) (.cons (.con (.non)) .nil)))) (.nil))) (.seq (.ret (.tupC (.cons (.con (.str "closed")) (.nil)))) (.nil)))))
def N_Session__prepare : List Str := ["self", "name", "string", "parts"]
def c_Session__prepare : IR := .seq (.ifS (.cmp .In (.var 1) (.nod (fFld "_statements") (eFld [11] "_statements") (.cons (.var 0) .nil))) (.seq (.ret (.tupC (.cons (.con (.str "wrong")) (.cons (.con (.str "taken")) (.nil))))) (.nil)) (.nil)) (.seq (.ifS (.cmp .Eq (.cal "len" spLenD (.cons (.nod (fFld "_statements") (eFld [11] "_statements") (.cons (.var 0) .nil)) .nil)) (.glb "MOST_STATEMENTS" (.int 8))) (.seq (.ret (.tupC (.cons (.con (.str "wrong")) (.cons (.con (.str "crowded")) (.nil))))) (.nil)) (.nil)) (.seq (.asg (.gN 3) (.cal "read_statement" sp_read_statement (.cons (.var 2) .nil))) (.seq (.ifS (.cmp .Is (.var 3) (.con (.non))) (.seq (.ret (.tupC (.cons (.con (.str "wrong")) (.cons (.con (.str "unreadable")) (.nil))))) (.nil)) (.nil)) (.seq (.asg (.gSub (.nod (fFld "_statements") (eFld [11] "_statements") (.cons (.var 0) .nil)) (.var 1)) (.var 3)) (.seq (.ret (.tupC (.cons (.con (.str "prepared")) (.cons (.cal "parameters" sp_parameters (.cons (.var 3) .nil)) (.nil))))) (.nil))))))
def N_Session__bind : List Str := ["self", "portal", "name", "values"]
def r5_Session__bind : IR := .seq (.ret (.tupC (.cons (.con (.str "bound")) (.nil)))) (.nil)
def r4_Session__bind : IR := .seq (.asg (.gSub (.nod (fFld "_portals") (eFld [11] "_portals") (.cons (.var 0) .nil)) (.var 1)) (.nod (fNew "Portal") (eNew 10 sp_Portal___init__) (.cons (.ix (.nod (fFld "_statements") (eFld [11] "_statements") (.cons (.var 0) .nil)) (.var 2)) (.cons (.var 3) .nil)))) r5_Session__bind
def r3_Session__bind : IR := .seq (.ifS (.cmp .NotEq (.cal "len" spLen (.cons (.var 3) .nil)) (.cal "parameters" sp_parameters (.cons (.ix (.nod (fFld "_statements") (eFld [11] "_statements") (.cons (.var 0) .nil)) (.var 2)) .nil))) (.seq (.ret (.tupC (.cons (.con (.str "wrong")) (.cons (.con (.str "values")) (.nil))))) (.nil)) (.nil)) r4_Session__bind
def r2_Session__bind : IR := .seq (.ifS (.cmp .NotIn (.var 2) (.nod (fFld "_statements") (eFld [11] "_statements") (.cons (.var 0) .nil))) (.seq (.ret (.tupC (.cons (.con (.str "wrong")) (.cons (.con (.str "no statement")) (.nil))))) (.nil)) (.nil)) r3_Session__bind
def r1_Session__bind : IR := .seq (.ifS (.cmp .Eq (.cal "len" spLenD (.cons (.nod (fFld "_portals") (eFld [11] "_portals") (.cons (.var 0) .nil)) .nil)) (.glb "MOST_PORTALS" (.int 8))) (.seq (.ret (.tupC (.cons (.con (.str "wrong")) (.cons (.con (.str "crowded")) (.nil))))) (.nil)) (.nil)) r2_Session__bind
def c_Session__bind : IR := .seq (.ifS (.cmp .In (.var 1) (.nod (fFld "_portals") (eFld [11] "_portals") (.cons (.var 0) .nil))) (.seq (.ret (.tupC (.cons (.con (.str "wrong")) (.cons (.con (.str "taken")) (.nil))))) (.nil)) (.nil)) r1_Session__bind
def N_Session__run : List Str := ["self", "name", "most", "portal", "count", "rows", "result"]
def r9_Session__run : IR := .seq (.ret (.tupC (.cons (.con (.str "rows")) (.cons (.var 5) (.cons (.notV (.nod (fFld "is_done") (eFld [10] "is_done") (.cons (.var 3) .nil))) (.nil)))))) (.nil)
def r8_Session__run : IR := .seq (.sno (fSet "is_done") (eSet [10] "is_done") (.cons (.cmp .Eq (.cal "len" spLen (.cons (.nod (fFld "rows") (eFld [10] "rows") (.cons (.var 3) .nil)) .nil)) (.con (.int 0))) (.cons (.var 3) .nil))) r9_Session__run
def r7_Session__run : IR := .seq (.sno (fSet "rows") (eSet [10] "rows") (.cons (.sl (.nod (fFld "rows") (eFld [10] "rows") (.cons (.var 3) .nil)) (.var 4) (.nop)) (.cons (.var 3) .nil))) r8_Session__run
def r6_Session__run : IR := .seq (.asg (.gN 5) (.sl (.nod (fFld "rows") (eFld [10] "rows") (.cons (.var 3) .nil)) (.nop) (.var 4))) r7_Session__run
def r5_Session__run : IR := .seq (.asg (.gN 4) (.ife (.cmp .Eq (.var 2) (.con (.int 0))) (.cal "len" spLen (.cons (.nod (fFld "rows") (eFld [10] "rows") (.cons (.var 3) .nil)) .nil)) (.var 2))) r6_Session__run
def r4_Session__run : IR := .seq (.ifS (.cmp .Is (.nod (fFld "rows") (eFld [10] "rows") (.cons (.var 3) .nil)) (.con (.non))) (.seq (.asg (.gN 6) (.mcl "_do" [(11, sp_Session__do)] (.var 0) (.cons (.cal "filled" sp_filled (.cons (.nod (fFld "parts") (eFld [10] "parts") (.cons (.var 3) .nil)) (.cons (.nod (fFld "given") (eFld [10] "given") (.cons (.var 3) .nil)) .nil))) .nil))) (.seq (.ifS (.cmp .NotEq (.ix (.var 6) (.con (.int 0))) (.con (.str "rows"))) (.seq (.sno (fSet "is_done") (eSet [10] "is_done") (.cons (.cmp .Eq (.ix (.var 6) (.con (.int 0))) (.con (.str "complete"))) (.cons (.var 3) .nil))) (.seq (.ret (.var 6)) (.nil))) (.nil)) (.seq (.sno (fSet "rows") (eSet [10] "rows") (.cons (.ix (.var 6) (.con (.int 1))) (.cons (.var 3) .nil))) (.nil)))) (.nil)) r5_Session__run
def r3_Session__run : IR := .seq (.ifS (.tV (.nod (fFld "is_done") (eFld [10] "is_done") (.cons (.var 3) .nil))) (.seq (.ret (.tupC (.cons (.con (.str "wrong")) (.cons (.con (.str "at end")) (.nil))))) (.nil)) (.nil)) r4_Session__run
def r2_Session__run : IR := .seq (.ifS (.tAnd (.cmp .Eq (.nod (fFld "_state") (eFld [11] "_state") (.cons (.var 0) .nil)) (.con (.str "failed"))) (.tOne (.cmp .NotIn (.ix (.nod (fFld "parts") (eFld [10] "parts") (.cons (.var 3) .nil)) (.con (.int 0))) (.glb "ENDINGS" (.tup [.str "commit", .str "rollback", .str "undo"]))))) (.seq (.ret (.tupC (.cons (.con (.str "wrong")) (.cons (.con (.str "failed")) (.nil))))) (.nil)) (.nil)) r3_Session__run
def r1_Session__run : IR := .seq (.asg (.gN 3) (.ix (.nod (fFld "_portals") (eFld [11] "_portals") (.cons (.var 0) .nil)) (.var 1))) r2_Session__run
def c_Session__run : IR := .seq (.ifS (.cmp .NotIn (.var 1) (.nod (fFld "_portals") (eFld [11] "_portals") (.cons (.var 0) .nil))) (.seq (.ret (.tupC (.cons (.con (.str "wrong")) (.cons (.con (.str "no portal")) (.nil))))) (.nil)) (.nil)) r1_Session__run
def N_Session__do : List Str := ["self", "parts"]
def c_Session__do : IR := .seq (.ifS (.cmp .NotIn (.ix (.var 1) (.con (.int 0))) (.glb "TRANSACTIONS" (.tup [.str "begin", .str "commit", .str "rollback", .str "save", .str "undo"]))) (.seq (.ret (.cal "do" sp_do (.cons (.nod (fFld "_store") (eFld [11] "_store") (.cons (.var 0) .nil)) (.cons (.var 1) .nil)))) (.nil)) (.nil)) (.seq (.ifS (.cmp .Eq (.ix (.var 1) (.con (.int 0))) (.con (.str "begin"))) (.seq (.ret (.mcl "_begin" [(11, sp_Session__begin)] (.var 0) (.nil))) (.nil)) (.nil)) (.seq (.ifS (.cmp .Eq (.nod (fFld "_state") (eFld [11] "_state") (.cons (.var 0) .nil)) (.con (.str "none"))) (.seq (.ret (.tupC (.cons (.con (.str "wrong")) (.cons (.con (.str "no transaction")) (.nil))))) (.nil)) (.nil)) (.seq (.ifS (.cmp .Eq (.ix (.var 1) (.con (.int 0))) (.con (.str "save"))) (.seq (.ret (.mcl "_save" [(11, sp_Session__save)] (.var 0) (.cons (.ix (.var 1) (.con (.int 1))) .nil))) (.nil)) (.nil)) (.seq (.ifS (.cmp .Eq (.ix (.var 1) (.con (.int 0))) (.con (.str "undo"))) (.seq (.ret (.mcl "_undo" [(11, sp_Session__undo)] (.var 0) (.cons (.ix (.var 1) (.con (.int 1))) .nil))) (.nil)) (.nil)) (.seq (.ret (.mcl "_end" [(11, sp_Session__end)] (.var 0) (.cons (.ix (.var 1) (.con (.int 0))) .nil))) (.nil))))))
def N_Session__begin : List Str := ["self"]
def c_Session__begin : IR := .seq (.ifS (.cmp .Eq (.nod (fFld "_state") (eFld [11] "_state") (.cons (.var 0) .nil)) (.con (.str "open"))) (.seq (.ret (.tupC (.cons (.con (.str "wrong")) (.cons (.con (.str "in transaction")) (.nil))))) (.nil)) (.nil)) (.seq (.sno (fSet "_state") (eSet [11] "_state") (.cons (.con (.str "open")) (.cons (.var 0) .nil))) (.seq (.ret (.tupC (.cons (.con (.str "complete")) (.cons (.con (.int 0)) (.nil))))) (.nil)))
def N_Session__save : List Str := ["self", "name"]
def c_Session__save : IR := .seq (.ifS (.cmp .Eq (.cal "len" spLen (.cons (.nod (fFld "_savepoints") (eFld [11] "_savepoints") (.cons (.var 0) .nil)) .nil)) (.glb "MOST_SAVEPOINTS" (.int 10))) (.seq (.ret (.tupC (.cons (.con (.str "wrong")) (.cons (.con (.str "crowded")) (.nil))))) (.nil)) (.nil)) (.seq (.exp (.bme "list" "list.append" "append" spApp (.nod (fFld "_savepoints") (eFld [11] "_savepoints") (.cons (.var 0) .nil)) (.cons (.tupC (.cons (.var 1) (.cons (.cal "dict" spDct (.cons (.nod (fFld "_store") (eFld [11] "_store") (.cons (.var 0) .nil)) .nil)) .nil))) .nil))) (.seq (.ret (.tupC (.cons (.con (.str "complete")) (.cons (.con (.int 0)) (.nil))))) (.nil)))
def N_Session__undo : List Str := ["self", "name", "places", "k", "savepoint"]
def r5_Session__undo : IR := .seq (.ret (.tupC (.cons (.con (.str "complete")) (.cons (.con (.int 0)) (.nil))))) (.nil)
def r4_Session__undo : IR := .seq (.sno (fSet "_state") (eSet [11] "_state") (.cons (.con (.str "open")) (.cons (.var 0) .nil))) r5_Session__undo
def r3_Session__undo : IR := .seq (.sno (fSet "_savepoints") (eSet [11] "_savepoints") (.cons (.nod fSlM eSlM (.cons (.nod (fFld "_savepoints") (eFld [11] "_savepoints") (.cons (.var 0) .nil)) (.cons (.bin .Add (.ix (.var 2) (.neg (.con (.int 1)))) (.con (.int 1))) .nil))) (.cons (.var 0) .nil))) r4_Session__undo
def r2_Session__undo : IR := .seq (.sno (fSet "_store") (eSet [11] "_store") (.cons (.cal "dict" spDct (.cons (.ix (.ix (.nod (fFld "_savepoints") (eFld [11] "_savepoints") (.cons (.var 0) .nil)) (.ix (.var 2) (.neg (.con (.int 1))))) (.con (.int 1))) .nil)) (.cons (.var 0) .nil))) r3_Session__undo
def r1_Session__undo : IR := .seq (.ifS (.tNot (.tV (.var 2))) (.seq (.ret (.tupC (.cons (.con (.str "wrong")) (.cons (.con (.str "no savepoint")) (.nil))))) (.nil)) (.nil)) r2_Session__undo
def c_Session__undo : IR := .seq (.asc 2 (.cpr [("k", 3), ("savepoint", 4)] (.gT 2 (.cons (.gN 3) (.cons (.gN 4) (.nil)))) (.ien (.nod (fFld "_savepoints") (eFld [11] "_savepoints") (.cons (.var 0) .nil))) (.cmp .Eq (.ix (.var 4) (.con (.int 0))) (.var 1)) (.var 3))) r1_Session__undo
def N_Session__end : List Str := ["self", "word", "failed"]
def r6_Session__end : IR := .seq (.ret (.tupC (.cons (.con (.str "complete")) (.cons (.con (.int 0)) (.nil))))) (.nil)
def r5_Session__end : IR := .seq (.ifS (.tAnd (.cmp .Eq (.var 1) (.con (.str "commit"))) (.tOne (.tV (.var 2)))) (.seq (.ret (.tupC (.cons (.con (.str "wrong")) (.cons (.con (.str "rolled back")) (.nil))))) (.nil)) (.nil)) r6_Session__end
def r4_Session__end : IR := .seq (.sno (fSet "_portals") (eSet [11] "_portals") (.cons (.nod fDnil eDnil .nil) (.cons (.var 0) .nil))) r5_Session__end
def r3_Session__end : IR := .seq (.sno (fSet "_savepoints") (eSet [11] "_savepoints") (.cons (.lstM (.nil)) (.cons (.var 0) .nil))) r4_Session__end
def r2_Session__end : IR := .seq (.sno (fSet "_state") (eSet [11] "_state") (.cons (.con (.str "none")) (.cons (.var 0) .nil))) r3_Session__end
def r1_Session__end : IR := .seq (.ifS (.tAnd (.cmp .Eq (.var 1) (.con (.str "commit"))) (.tOne (.tNot (.tV (.var 2))))) (.seq (.sno (fSet "_base") (eSet [11] "_base") (.cons (.cal "dict" spDct (.cons (.nod (fFld "_store") (eFld [11] "_store") (.cons (.var 0) .nil)) .nil)) (.cons (.var 0) .nil))) (.nil)) (.seq (.sno (fSet "_store") (eSet [11] "_store") (.cons (.cal "dict" spDct (.cons (.nod (fFld "_base") (eFld [11] "_base") (.cons (.var 0) .nil)) .nil)) (.cons (.var 0) .nil))) (.nil))) r2_Session__end
def c_Session__end : IR := .seq (.asg (.gN 2) (.cmp .Eq (.nod (fFld "_state") (eFld [11] "_state") (.cons (.var 0) .nil)) (.con (.str "failed")))) r1_Session__end
end M
end

section
set_option Elab.async false
set_option linter.all false
set_option maxRecDepth 100000
set_option maxHeartbeats 4000000
set_option autoImplicit false
namespace M
open PySem PySem.Spec PyProof.Rows L2
open SX (S S_len S_cat)
theorem put_self {μ : Sto} {j : Nat} {c : Cell} (h : μ.cell j = some c) : μ.put j c = μ := by
  cases μ
  unfold Sto.put
  congr 1
  funext k
  by_cases e : k = j
  · subst e
    rw [if_pos rfl]
    exact h.symm
  · rw [if_neg e]
theorem put_put {μ : Sto} {j : Nat} {c c' : Cell} : (μ.put j c).put j c' = μ.put j c' := by
  cases μ
  unfold Sto.put
  congr 1
  funext k
  by_cases e : k = j
  · rw [if_pos e, if_pos e]
  · rw [if_neg e, if_neg e]
    exact if_neg e
theorem rkT_int (i : Int) : rkT (.inl i) = .tup [.int 0, .int i] := rfl
theorem rkT_str (s : Str) : rkT (.inr s.cps.toList) = .tup [.int 1, .str s] := by
  show D.tup [.int 1, .str ⟨s.cps.toList.toArray⟩] = _
  rw [Array.toArray_toList]
theorem w_rank : ∀ ds μ Q QX, μ.wf → objBs μ.next ds = true → sp_rank ds μ Q QX → ds.length = 1 ∧ wpS c_rank (startE N_rank ds) μ (outs μ.next Q QX) := by
  intro ds μ Q QX hw ho h
  unfold sp_rank at h
  split at h
  · obtain ⟨k, rfl, h1⟩ := h
    refine ⟨rfl, ?_⟩
    cases k with
    | inl i =>
      have h1 : Q (.tup [.int 0, .int i]) μ := h1
      simp [startE, wpS, wpT, wpE, wpA, wpI, wpG, wpGs, wpOpt, spLen, spIsi, spInt, spStr, spTup, spLst, spMax, spApp, spFind, spSplit, spJoin, spDget, tn_str, tn_int, tn_bl, tn_non, tn_tup, tn_lst, tn_scr, td_str, td_lst, isB, tys, truD, cmpD, binD, slD, ixD, outs, eAllS, eAllN, eMaxD, eGin, eGinT, eGix, eRse, eCal0, drf, sq_tup, sq_lst, sq_scr, sq_str, sq_int, sq_non, l_lst, l_scr, l_tup, lm_lst, lm_str, lm_int, lm_tup, lm_non, lm_bl, eqOk_str, eqOk_int, eqOk_non, deq_int, deq_str, two_le, isNonD, tysOf, c_rank, N_rank, keyD, two_le]
      exact fin_same hw rfl h1
    | inr s =>
      have h1 : Q (.tup [.int 1, .str s]) μ := by rw [← rkT_str]; exact h1
      simp [startE, wpS, wpT, wpE, wpA, wpI, wpG, wpGs, wpOpt, spLen, spIsi, spInt, spStr, spTup, spLst, spMax, spApp, spFind, spSplit, spJoin, spDget, tn_str, tn_int, tn_bl, tn_non, tn_tup, tn_lst, tn_scr, td_str, td_lst, isB, tys, truD, cmpD, binD, slD, ixD, outs, eAllS, eAllN, eMaxD, eGin, eGinT, eGix, eRse, eCal0, drf, sq_tup, sq_lst, sq_scr, sq_str, sq_int, sq_non, l_lst, l_scr, l_tup, lm_lst, lm_str, lm_int, lm_tup, lm_non, lm_bl, eqOk_str, eqOk_int, eqOk_non, deq_int, deq_str, two_le, isNonD, tysOf, c_rank, N_rank, keyD, two_le]
      exact fin_same hw rfl h1
  · exact h.elim
theorem filterMap_if {α β : Type} (p : α → Bool) (f : α → β) : ∀ l : List α, (l.filterMap fun x => if p x = true then some (f x) else none) = (l.filter p).map f
  | [] => rfl
  | x :: l => by
    rw [List.filterMap_cons, List.filter_cons]
    by_cases h : p x = true
    · rw [if_pos h, if_pos h, List.map_cons, filterMap_if p f l]
    · rw [if_neg h, if_neg h, filterMap_if p f l]
/-- a comprehension over the images of a list, with a test -/
theorem loopC_sel {α : Type} {turn : D → Sto → (Option D → Sto → Prop) → Prop} {gd : Sto → Prop} {fin : List D → Sto → Prop} (f g : α → D) (p : α → Bool) {μ : Sto} (hg : gd μ) {l : List α} (h : ∀ x ∈ l, ∀ N : Option D → Sto → Prop, N (if p x = true then some (g x) else none) μ → turn (f x) μ N) (hl : l.length ≤ sizeLine) (hf : fin ((l.filter p).map g) μ) : loopC turn gd fin (l.map f) [] μ := by
  have : ∀ (l : List α) (acc : List D), (∀ x ∈ l, ∀ N : Option D → Sto → Prop, N (if p x = true then some (g x) else none) μ → turn (f x) μ N) → acc.length + l.length ≤ sizeLine → fin (acc ++ (l.filter p).map g) μ → loopC turn gd fin (l.map f) acc μ := by
    intro l
    induction l with
    | nil =>
      intro acc _ _ hf
      exact ⟨hg, by simpa using hf⟩
    | cons x l ih =>
      intro acc h hl hf
      rw [List.length_cons] at hl
      refine ⟨hg, h x (by simp) _ ?_⟩
      rw [List.filter_cons] at hf
      by_cases hp : p x = true
      · rw [if_pos hp] at hf ⊢
        exact ⟨by omega, ih (acc ++ [g x]) (fun y hy => h y (by simp [hy])) (by rw [List.length_append, List.length_singleton]; omega) (by simpa using hf)⟩
      · rw [if_neg hp] at hf ⊢
        exact ih acc (fun y hy => h y (by simp [hy])) (by omega) hf
  exact this l [] h (by simpa using hl) (by simpa using hf)
theorem it_seq {d : D} {ds : List D} {μ : Sto} {K : IPost} (h : SeqOf d ds) : itD d μ K = K ds (fun _ => True) μ := by
  rcases h with rfl | rfl <;> rfl
theorem asSeq_seq {d : D} {ds : List D} {μ : Sto} (h : SeqOf d ds) : asSeq d μ = some ds := by
  rcases h with rfl | rfl <;> rfl
theorem sz1000 : (1000 : Nat) ≤ sizeLine := by rw [sizeLine_eq]; omega
theorem row_ix (r : Row) (μ : Sto) (Q : Post) : ixD (rowD r) (.int 0) μ Q = Q (keyD r.1) μ := rfl
theorem rows_B {n : Nat} (rs : List Row) : objB n (.lst (rs.map rowD)) = true := objBs_map fun r _ => tupK_B n _
theorem cmp_ne {a b : Key} {μ : Sto} {Q : Bool → Prop} (h : Q (!decide (a = b))) : cmpD .NotEq (keyD a) (keyD b) μ Q := by
  show eqOk (drf (keyD a) μ) = true ∧ eqOk (drf (keyD b) μ) = true ∧ Q (!deq (drf (keyD a) μ) (drf (keyD b) μ))
  rw [drf_key, drf_key, eqOk_key, eqOk_key, deq_key]
  exact ⟨rfl, rfl, h⟩
theorem cmp_eq {a b : Key} {μ : Sto} {Q : Bool → Prop} (h : Q (decide (a = b))) : cmpD .Eq (keyD a) (keyD b) μ Q := by
  show eqOk (drf (keyD a) μ) = true ∧ eqOk (drf (keyD b) μ) = true ∧ Q (deq (drf (keyD a) μ) (drf (keyD b) μ))
  rw [drf_key, drf_key, eqOk_key, eqOk_key, deq_key]
  exact ⟨rfl, rfl, h⟩
theorem w_without : ∀ ds μ Q QX, μ.wf → objBs μ.next ds = true → sp_without ds μ Q QX → ds.length = 2 ∧ wpS c_without (startE N_without ds) μ (outs μ.next Q QX) := by
  intro ds μ Q QX hw ho h
  unfold sp_without at h
  split at h
  · obtain ⟨rows, key, hs, rfl, hl, h1⟩ := h
    refine ⟨rfl, ?_⟩
    have := sz1000
    simp [startE, wpS, wpT, wpE, wpA, wpI, wpG, wpGs, wpOpt, outs, wipeE, ePar, c_without, N_without]
    rw [it_seq hs]
    refine loopC_sel rowD rowD (fun r => decide (r.1 ≠ key)) trivial (fun r _ N hN => ?_) (by omega) (fin_same hw (rows_B _) h1)
    rw [row_ix]
    refine cmp_ne ?_
    by_cases e : r.1 = key <;> simpa [e] using hN
  · exact h.elim
theorem sto_get {s : Store} {n : Str} : valD (stoK s) (.inr n) = (getA s n).map tabD := mapK_get _ _ _
theorem sto_put {s : Store} {n : Str} {rs : List Row} : putD (stoK s) (.inr n) (tabD rs) = stoK (putA s n rs) := mapK_put _ _ _ _
theorem sto_len {s : Store} : (stoK s).length = s.length := mapK_len _ _
theorem ak_dct {k : Nat} {kvs : List (Key × D)} {μ : Sto} (h : μ.cell k = some (.dct kvs)) : asK (.obj k) μ = some kvs := by simp [asK, h]
theorem akm_dct {k : Nat} {kvs : List (Key × D)} {μ : Sto} (h : μ.cell k = some (.dct kvs)) : asKM (.obj k) μ = some kvs := by simp [asKM, h]
theorem lm_dct {k : Nat} {kvs : List (Key × D)} {μ : Sto} (h : μ.cell k = some (.dct kvs)) : asLM (.obj k) μ = none := by simp [asLM, h]
theorem l_dct {k : Nat} {kvs : List (Key × D)} {μ : Sto} (h : μ.cell k = some (.dct kvs)) : asL (.obj k) μ = none := by simp [asL, h]
theorem sq_dct {k : Nat} {kvs : List (Key × D)} {μ : Sto} (h : μ.cell k = some (.dct kvs)) : asSeq (.obj k) μ = none := by simp [asSeq, asL, h]
theorem cmp_in {o : Nat} {n : Str} {kvs : List (Key × D)} {μ : Sto} {Q : Bool → Prop} (h : μ.cell o = some (.dct kvs)) : cmpD .In (.str n) (.obj o) μ Q = Q (valD kvs (.inr n)).isSome := by
  simp [cmpD, lm_dct h, ak_dct h, keyOf]
theorem cmp_nin {o : Nat} {n : Str} {kvs : List (Key × D)} {μ : Sto} {Q : Bool → Prop} (h : μ.cell o = some (.dct kvs)) : cmpD .NotIn (.str n) (.obj o) μ Q = Q (!(valD kvs (.inr n)).isSome) := by
  simp [cmpD, lm_dct h, ak_dct h, keyOf]
theorem ixd_dct {o : Nat} {n : Str} {kvs : List (Key × D)} {μ : Sto} {Q : Post} {d : D} (h : μ.cell o = some (.dct kvs)) (hv : valD kvs (.inr n) = some d) : ixD (.obj o) (.str n) μ Q = Q d μ := by
  simp [ixD, sq_dct h, ak_dct h, keyOf, hv]
theorem lenD_dct {o : Nat} {kvs : List (Key × D)} {μ : Sto} {Q : Post} {E : XPost} (h : μ.cell o = some (.dct kvs)) : spLenD [.obj o] μ Q E = Q (.int kvs.length) μ := by
  simp [spLenD, akm_dct h]
theorem some_map {α β : Type} (o : Option α) (f : α → β) : (o.map f).isSome = o.isSome := by cases o <;> rfl
theorem cmp_eq_int {a b : Int} {μ : Sto} {Q : Bool → Prop} : cmpD .Eq (.int a) (.int b) μ Q = Q (decide (a = b)) := by
  simp [cmpD, drf, asLM, eqOk_int, deq_int]
theorem putA_new {α : Type} {l : List (Str × α)} {k : Str} {v : α} (h : (getA l k).isSome = false) : putA l k v = l ++ [(k, v)] := by
  unfold putA
  rw [if_neg]
  intro z
  rw [List.any_eq_true] at z
  obtain ⟨t, m, e⟩ := z
  unfold getA at h
  rw [some_map, Option.isSome_eq_false_iff, Option.isNone_iff_eq_none, List.find?_eq_none] at h
  exact h t m e
theorem w_create : ∀ ds μ Q QX, μ.wf → objBs μ.next ds = true → sp_create ds μ Q QX → ds.length = 2 ∧ wpS c_create (startE N_create ds) μ (outs μ.next Q QX) := by
  intro ds μ Q QX hw ho h
  unfold sp_create at h
  split at h
  · rename_i j n
    obtain ⟨s, hj, hok, h1⟩ := h
    refine ⟨rfl, ?_⟩
    have := sz1000
    have hl : s.length ≤ 4 := hok.1
    simp [startE, wpS, wpT, wpE, wpA, wpI, wpG, wpGs, wpOpt, outs, wipeE, ePar, c_create, N_create, cmp_in hj, lenD_dct hj, cmp_eq_int, sto_get, sto_len, two_le, hj, keyOf]
    unfold createA at h1
    by_cases e : (getA s n).isSome = true
    · rw [if_pos e] at h1
      rw [if_pos e]
      exact fin_same hw rfl (by rw [put_self hj] at h1; exact h1)
    · rw [if_neg e] at h1
      rw [if_neg e]
      by_cases e2 : s.length = 4
      · rw [if_pos e2] at h1
        rw [if_pos (by omega)]
        exact fin_same hw rfl (by rw [put_self hj] at h1; exact h1)
      · rw [if_neg e2] at h1
        rw [if_neg (by omega)]
        refine ⟨by omega, ?_⟩
        have e3 : putD (stoK s) (.inr n) (.tup []) = stoK (putA s n []) := sto_put (rs := [])
        rw [e3]
        exact fin_all (wf_put hw (hw _ _ hj).1 (stoK_B _ _)) (Nat.le_refl _) rfl h1
  · exact h.elim
theorem without_ap {rows : List Row} {key : Key} {μ : Sto} {Q : Post} {E : XPost} (hl : rows.length ≤ 1000) (h : Q (.lst ((withoutA rows key).map rowD)) μ) : sp_without [tabD rows, keyD key] μ Q E := ⟨rows, key, .inl rfl, rfl, hl, h⟩
theorem rank_ap {k : Key} {μ : Sto} {Q : Post} {E : XPost} (h : Q (rkT (rkK k)) μ) : sp_rank [keyD k] μ Q E := ⟨k, rfl, h⟩
theorem bin_addL {xs ys : List D} {μ : Sto} {Q : Post} : binD .Add (.lst xs) (.lst ys) μ Q = (xs.length + ys.length ≤ sizeLine ∧ Q (.lst (xs ++ ys)) μ) := rfl
open PySem.W in
theorem sortA_map (rs : List Row) : (rs.map rowD).mergeSort (sortLe itemOrd false rowKey) = (sortA rs).map rowD := (List.map_mergeSort (f := rowD) (l := rs) (r := fun a b => sortLe itemOrd false rowKey (rowD a) (rowD b)) (s := sortLe itemOrd false rowKey) fun _ _ _ _ => rfl).symm
theorem getA_mem {α : Type} {l : List (Str × α)} {k : Str} {v : α} (h : getA l k = some v) : (k, v) ∈ l := by
  unfold getA at h
  obtain ⟨t, ht, rfl⟩ := Option.map_eq_some_iff.mp h
  have e : t.1 = k := by simpa using List.find?_some ht
  have m := List.mem_of_find?_eq_some ht
  rw [← e]
  exact m
theorem srt_ap {rs : List Row} {μ : Sto} {δ : Env} {Q : Post} {E : XPost} (hl : rs.length ≤ 1000) (h : Q (.lst ((sortA rs).map rowD)) μ) : eSrt (.cal "rank" sp_rank (.cons (.ix (.var 0) (.con (.int 0))) .nil)) rowKey δ [.lst (rs.map rowD)] μ Q E := by
  have := sz1000
  refine ⟨by rw [List.length_map]; omega, fun r hr μ' => ?_, by rw [sortA_map]; exact h⟩
  obtain ⟨r0, _, rfl⟩ := List.mem_map.mp hr
  simp [startE, wpS, wpT, wpE, wpA, wpI, wpG, wpGs, wpOpt, outs, wipeE, ePar, ]
  rw [row_ix]
  exact rank_ap ⟨by rw [rowKey_row], rfl⟩
theorem withoutA_le (rows : List Row) (k : Key) : (withoutA rows k).length ≤ rows.length := List.length_filter_le ..
theorem sortA_len (rs : List Row) : (sortA rs).length = rs.length := List.length_mergeSort ..
theorem w_put : ∀ ds μ Q QX, μ.wf → objBs μ.next ds = true → sp_put ds μ Q QX → ds.length = 4 ∧ wpS c_put (startE N_put ds) μ (outs μ.next Q QX) := by
  intro ds μ Q QX hw ho h
  unfold sp_put at h
  split at h
  · rename_i j n k0 e0
    obtain ⟨s, rows, key, ent, hj, hok, hg, rfl, rfl, h1⟩ := h
    refine ⟨rfl, ?_⟩
    have := sz1000
    have hl : rows.length ≤ 20 := (hok.2 _ (getA_mem hg)).1
    have hv : valD (stoK s) (.inr n) = some (tabD rows) := by rw [sto_get, hg]; rfl
    have hl2 := withoutA_le rows key
    simp [startE, wpS, wpT, wpE, wpA, wpI, wpG, wpGs, wpOpt, outs, wipeE, ePar, c_put, N_put, ixd_dct hj hv, two_le]
    refine without_ap (by omega) ⟨by omega, ?_⟩
    rw [bin_addL]
    refine ⟨by simp; omega, ?_⟩
    simp [startE, wpS, wpT, wpE, wpA, wpI, wpG, wpGs, wpOpt, outs, wipeE, ePar, spLen, sq_lst, cmpD]
    unfold putR at h1
    by_cases e : 20 < (withoutA rows key).length + 1
    · rw [if_pos e] at h1
      rw [if_pos (by omega)]
      exact fin_same hw rfl (by rw [put_self hj] at h1; exact h1)
    · rw [if_neg e] at h1
      rw [if_neg (by omega)]
      have e1 : (withoutA rows key).map rowD ++ [D.tup [keyD key, keyD ent]] = (withoutA rows key ++ [(key, ent)]).map rowD := by rw [List.map_append]; rfl
      rw [e1]
      refine srt_ap (by simp; omega) ?_
      rw [sortA_put (hok.2 _ (getA_mem hg)).2]
      simp [startE, wpS, wpT, wpE, wpA, wpI, wpG, wpGs, wpOpt, outs, wipeE, ePar, spTup, sq_lst, hj, keyOf, sto_len, two_le]
      refine ⟨by have := hok.1; omega, ?_⟩
      have e3 : putD (stoK s) (.inr n) (.tup ((putM rows key ent).map rowD)) = stoK (putA s n (putM rows key ent)) := sto_put
      rw [e3]
      exact fin_all (wf_put hw (hw _ _ hj).1 (stoK_B _ _)) (Nat.le_refl _) rfl h1
  · exact h.elim
theorem w_delete : ∀ ds μ Q QX, μ.wf → objBs μ.next ds = true → sp_delete ds μ Q QX → ds.length = 3 ∧ wpS c_delete (startE N_delete ds) μ (outs μ.next Q QX) := by
  intro ds μ Q QX hw ho h
  unfold sp_delete at h
  split at h
  · rename_i j n k0
    obtain ⟨s, rows, key, hj, hok, hg, rfl, h1⟩ := h
    refine ⟨rfl, ?_⟩
    have := sz1000
    have hl : rows.length ≤ 20 := (hok.2 _ (getA_mem hg)).1
    have hv : valD (stoK s) (.inr n) = some (tabD rows) := by rw [sto_get, hg]; rfl
    simp [startE, wpS, wpT, wpE, wpA, wpI, wpG, wpGs, wpOpt, outs, wipeE, ePar, c_delete, N_delete, ixd_dct hj hv, two_le]
    refine without_ap (by omega) ?_
    simp [startE, wpS, wpT, wpE, wpA, wpI, wpG, wpGs, wpOpt, outs, wipeE, ePar, spLen, ixd_dct hj hv, tabD, sq_tup, sq_lst, binD, spTup, hj, keyOf, sto_len, two_le]
    refine ⟨by have := hok.1; omega, ?_⟩
    have e3 : putD (stoK s) (.inr n) (.tup ((withoutA rows key).map rowD)) = stoK (putA s n (withoutA rows key)) := sto_put
    rw [e3]
    exact fin_all (wf_put hw (hw _ _ hj).1 (stoK_B _ _)) (Nat.le_refl _) rfl h1
  · exact h.elim
end M
end

section
set_option Elab.async false
set_option linter.all false
set_option maxRecDepth 100000
set_option maxHeartbeats 4000000
set_option autoImplicit false
namespace M
open PySem PySem.Spec PyProof.Rows L2
open SX (S S_len S_cat)
theorem deq_ii (i : Int) : deq (.int i) (.int i) = true := by rw [deq_int]; simp
theorem rkT_key (k : Key) : rkT (rkK k) = match k with
    | .inl i => .tup [.int 0, .int i]
    | .inr s => .tup [.int 1, .str s] := by
  cases k with
  | inl i => rfl
  | inr s => exact rkT_str s
theorem cmp_le_rk {a b : Key} {μ : Sto} {Q : Bool → Prop} (h : Q (leK a b)) : cmpD .LtE (rkT (rkK a)) (rkT (rkK b)) μ Q := by
  rw [rkT_key, rkT_key]
  cases a with
  | inl i => cases b with
    | inl j =>
      have h : Q (!decide (j < i)) := h
      by_cases e : i = j
      · subst e
        simpa [cmpD, tupO, flatD, deq_int] using h
      · have : decide (i ≤ j) = !decide (j < i) := by rw [Bool.eq_iff_iff]; simp
        simpa [cmpD, tupO, flatD, deq_int, leF, e, this] using h
    | inr t => simpa [cmpD, tupO, flatD, deq_int, leF, leK, ltK] using h
  | inr s => cases b with
    | inl j => simpa [cmpD, tupO, flatD, deq_int, leF, leK, ltK] using h
    | inr t =>
      have h : Q (!decide (t.cps.toList < s.cps.toList)) := h
      by_cases e : s = t
      · subst e
        rw [decide_eq_false (List.lt_irrefl _)] at h
        simpa [cmpD, tupO, flatD, deq_int, deq_str] using h
      · simpa [cmpD, tupO, flatD, deq_int, deq_str, leF, e] using h
theorem cmp_eq_str {a b : Str} {μ : Sto} {Q : Bool → Prop} : cmpD .Eq (.str a) (.str b) μ Q = Q (decide (a = b)) := by
  simp [cmpD, drf, asLM, eqOk_str, deq_str]
theorem cmp_ne_str {a b : Str} {μ : Sto} {Q : Bool → Prop} : cmpD .NotEq (.str a) (.str b) μ Q = Q (!decide (a = b)) := by
  simp [cmpD, drf, asLM, eqOk_str, deq_str]
theorem rowsL_map (rows : List Row) : rsD (rows.map rowL) = .lst (rows.map rowD) := by
  unfold rsD
  rw [List.map_map]
  rfl
theorem dec_true {a b : Str} (h : a = b) : decide (a = b) = true := decide_eq_true h
theorem fnd_get (rows : List Row) (k : Key) : foundA "get" rows [k] = (rows.filter fun r => decide (r.1 = k)).map rowL := by
  unfold foundA
  rw [if_neg (by decide), if_pos rfl]
theorem fnd_scan0 (rows : List Row) : foundA "scan" rows [] = rows.map rowL := by
  unfold foundA
  rw [if_neg (by decide), if_neg (by decide)]
theorem fnd_scan2 (rows : List Row) (lo hi : Key) : foundA "scan" rows [lo, hi] = (rows.filter fun r => leK lo r.1 && leK r.1 hi).map rowL := by
  unfold foundA
  rw [if_neg (by decide), if_neg (by decide)]
theorem w_found : ∀ ds μ Q QX, μ.wf → objBs μ.next ds = true → sp_found ds μ Q QX → ds.length = 4 ∧ wpS c_found (startE N_found ds) μ (outs μ.next Q QX) := by
  intro ds μ Q QX hw ho h
  unfold sp_found at h
  split at h
  · rename_i j w n v0
    obtain ⟨s, rows, vs, hj, hok, hg, rfl, hf, h1⟩ := h
    refine ⟨rfl, ?_⟩
    have := sz1000
    have hl : rows.length ≤ 20 := (hok.2 _ (getA_mem hg)).1
    have hv : valD (stoK s) (.inr n) = some (tabD rows) := by rw [sto_get, hg]; rfl
    have fin : ∀ d, d = ansD (.rows (foundA w rows vs)) → finP μ.next Q d μ := fun d e => by
      subst e
      exact fin_same hw (ansD_B _ _) h1
    rcases hf with ⟨rfl, hz⟩ | ⟨rfl, hz⟩ | ⟨rfl, hz⟩
    · simp [startE, wpS, wpT, wpE, wpA, wpI, wpG, wpGs, wpOpt, outs, wipeE, ePar, c_found, N_found, ixd_dct hj hv, two_le, spLst, tabD, sq_tup, cmp_eq_str, spLen, sq_lst]
      exact ⟨Nat.le_trans (by decide) this, fin _ rfl⟩
    · obtain ⟨k, rfl⟩ : ∃ k, vs = [k] := List.length_eq_one_iff.mp hz
      simp [startE, wpS, wpT, wpE, wpA, wpI, wpG, wpGs, wpOpt, outs, wipeE, ePar, c_found, N_found, ixd_dct hj hv, two_le, spLst, tabD, sq_tup, cmp_eq_str, spLen, sq_lst, it_lst]
      rw [if_neg (by decide)]
      refine loopC_sel rowD rowD (fun r => decide (r.1 = k)) trivial (fun r _ N hN => ?_) (by omega) (fin _ (by rw [fnd_get]; show _ = D.tup [.str "rows", rsD _]; rw [rowsL_map]))
      rw [row_ix, show ixD (D.lst [keyD k]) (.int 0) μ = fun Q => Q (keyD k) μ from rfl]
      refine cmp_eq ?_
      by_cases e : r.1 = k <;> simpa [e] using hN
    · rcases hz with hz | hz
      · obtain rfl : vs = [] := List.length_eq_zero_iff.mp hz
        simp [startE, wpS, wpT, wpE, wpA, wpI, wpG, wpGs, wpOpt, outs, wipeE, ePar, c_found, N_found, ixd_dct hj hv, two_le, spLst, tabD, sq_tup, cmp_eq_str, spLen, sq_lst, it_lst]
        rw [if_neg (by decide), if_neg (by decide)]
        simp [startE, wpS, wpT, wpE, wpA, wpI, wpG, wpGs, wpOpt, outs, wipeE, ePar, truD, sq_lst, two_le]
        exact fin _ (by rw [fnd_scan0]; show _ = D.tup [.str "rows", rsD _]; rw [rowsL_map])
      · obtain ⟨lo, hi, rfl⟩ : ∃ a b, vs = [a, b] := by
          match vs, hz with
          | [a, b], _ => exact ⟨a, b, rfl⟩
        simp [startE, wpS, wpT, wpE, wpA, wpI, wpG, wpGs, wpOpt, outs, wipeE, ePar, c_found, N_found, ixd_dct hj hv, two_le, spLst, tabD, sq_tup, cmp_eq_str, spLen, sq_lst, it_lst]
        rw [if_neg (by decide), if_neg (by decide)]
        simp [startE, wpS, wpT, wpE, wpA, wpI, wpG, wpGs, wpOpt, outs, wipeE, ePar, truD, sq_lst, two_le]
        rw [show ixD (D.lst [keyD lo, keyD hi]) (.int 0) μ = fun Q => Q (keyD lo) μ from rfl]
        refine rank_ap ?_
        rw [show ixD (D.lst [keyD lo, keyD hi]) (.int 1) μ = fun Q => Q (keyD hi) μ from rfl]
        refine rank_ap ?_
        refine loopC_sel rowD rowD (fun r => leK lo r.1 && leK r.1 hi) trivial (fun r _ N hN => ?_) (by omega) (fin _ (by rw [fnd_scan2]; show _ = D.tup [.str "rows", rsD _]; rw [rowsL_map]))
        rw [row_ix]
        refine rank_ap (cmp_le_rk ?_)
        cases e1 : leK lo r.1
        · simpa [e1] using hN
        · rw [if_pos rfl]
          refine cmp_le_rk ?_
          cases e2 : leK r.1 hi <;> simpa [e1, e2] using hN
  · exact h.elim
end M
end

section
set_option Elab.async false
set_option linter.all false
set_option maxRecDepth 100000
set_option maxHeartbeats 4000000
set_option autoImplicit false
namespace M
open PySem PySem.Spec PyProof.Rows L2
open SX (S S_len S_cat)
theorem ixl_0 {x : D} {l : List D} {μ : Sto} {Q : Post} : ixD (.lst (x :: l)) (.int 0) μ Q = Q x μ := by simp [ixD, sq_lst, atI_zero]
theorem ixl_1 {x y : D} {l : List D} {μ : Sto} {Q : Post} : ixD (.lst (x :: y :: l)) (.int 1) μ Q = Q y μ := by simp [ixD, sq_lst, atI_one]
theorem ixl_2 {x y z : D} {l : List D} {μ : Sto} {Q : Post} : ixD (.lst (x :: y :: z :: l)) (.int 2) μ Q = Q z μ := by
  have : atI (x :: y :: z :: l) 2 = some z := atI_nat' (x :: y :: z :: l) 2
  simp [ixD, sq_lst, this]
theorem ixl_3 {x y z u : D} {l : List D} {μ : Sto} {Q : Post} : ixD (.lst (x :: y :: z :: u :: l)) (.int 3) μ Q = Q u μ := by
  have : atI (x :: y :: z :: u :: l) 3 = some u := atI_nat' (x :: y :: z :: u :: l) 3
  simp [ixD, sq_lst, this]
theorem sll_2 {x y : D} {l : List D} {μ : Sto} {Q : Post} : slD (.lst (x :: y :: l)) (some 2) none μ Q = Q (.lst l) μ := by
  show Q (.lst (cutD (x :: y :: l) (some 2) none)) μ = _
  rw [cut_2]
  rfl
theorem sto_drop {s : Store} {n : Str} : dropD (stoK s) (.inr n) = stoK (dropA s n) := mapK_drop _ _ _
theorem w_do : ∀ ds μ Q QX, μ.wf → objBs μ.next ds = true → sp_do ds μ Q QX → ds.length = 2 ∧ wpS c_do (startE N_do ds) μ (outs μ.next Q QX) := by
  intro ds μ Q QX hw ho h
  unfold sp_do at h
  split at h
  · rename_i j p0
    obtain ⟨s, w, n, vs, hj, hok, rfl, hd, h1⟩ := h
    refine ⟨rfl, ?_⟩
    have := sz1000
    have fin : finP μ.next Q (ansD (doA s w n vs).2) (μ.put j (.dct (stoK (doA s w n vs).1))) := fin_all (wf_put hw (hw _ _ hj).1 (stoK_B _ _)) (Nat.le_refl _) (ansD_B _ _) h1
    have fin0 : (doA s w n vs).1 = s → finP μ.next Q (ansD (doA s w n vs).2) μ := fun e => by
      rw [e, put_self hj] at fin
      exact fin
    clear h1
    simp [startE, wpS, wpT, wpE, wpA, wpI, wpG, wpGs, wpOpt, outs, wipeE, ePar, c_do, N_do, ixl_0, ixl_1, sq_tup, cmp_eq_str, two_le]
    by_cases hc : w = "create"
    · subst hc
      rw [doA_create] at fin
      rw [if_pos rfl]
      exact ⟨s, hj, hok, fin⟩
    · rw [if_neg hc, cmp_nin hj, sto_get, some_map]
      cases hg : getA s n with
      | none =>
        rw [doA_none hc hg] at fin0
        exact fin0 rfl
      | some rows =>
        rw [doA_some hc hg] at fin fin0
        rw [if_neg (by simp)]
        by_cases h2 : w = "drop"
        · subst h2
          rw [doR_drop] at fin
          rw [if_pos rfl]
          simp [startE, wpS, wpT, wpE, wpA, wpI, wpG, wpGs, wpOpt, outs, wipeE, ePar, td_dct hj, spDpop, hj, keyOf, sto_get, hg, sto_drop, spLen, tabD, sq_tup, two_le]
          exact fin
        · rw [if_neg h2]
          by_cases h3 : w = "put"
          · subst h3
            obtain ⟨k, e, rfl⟩ : ∃ a b, vs = [a, b] := by
              have hz : vs.length = 2 := by
                rcases hd with ⟨z | z, _⟩ | ⟨_, z⟩ | ⟨z, _⟩ | ⟨z, _⟩ | ⟨z, _⟩ | ⟨z, _⟩ <;> first | exact z | exact absurd z (by decide)
              match vs, hz with
              | [a, b], _ => exact ⟨a, b, rfl⟩
            rw [doR_put] at fin
            rw [if_pos rfl]
            simp [startE, wpS, wpT, wpE, wpA, wpI, wpG, wpGs, wpOpt, outs, wipeE, ePar, ixl_2, ixl_3]
            exact ⟨s, rows, k, e, hj, hok, hg, rfl, rfl, fin⟩
          · rw [if_neg h3]
            by_cases h4 : w = "delete"
            · subst h4
              obtain ⟨k, rfl⟩ : ∃ a, vs = [a] := by
                have hz : vs.length = 1 := by
                  rcases hd with ⟨z | z, _⟩ | ⟨z, _⟩ | ⟨_, z⟩ | ⟨z, _⟩ | ⟨z, _⟩ | ⟨z, _⟩ <;> first | exact z | exact absurd z (by decide)
                exact List.length_eq_one_iff.mp hz
              rw [doR_delete] at fin
              rw [if_pos rfl]
              simp [startE, wpS, wpT, wpE, wpA, wpI, wpG, wpGs, wpOpt, outs, wipeE, ePar, ixl_2]
              exact ⟨s, rows, k, hj, hok, hg, rfl, fin⟩
            · rw [doR_found h2 h3 h4] at fin0
              rw [if_neg h4, sll_2]
              refine ⟨s, rows, vs, hj, hok, hg, rfl, ?_, fin0 rfl⟩
              rcases hd with ⟨z | z, _⟩ | ⟨z, _⟩ | ⟨z, _⟩ | z
              · exact absurd z hc
              · exact absurd z h2
              · exact absurd z h3
              · exact absurd z h4
              · exact z
  · exact h.elim
theorem tmD_tn (t : Tm) (μ : Sto) : tyName (tmD t) μ = match t with
    | .num _ => some "int"
    | _ => some "tuple" := by cases t <;> rfl
theorem getD_at {vs : List Key} {n : Int} (h1 : 1 ≤ n) (h2 : n ≤ vs.length) : atI (vs.map keyD) (n - 1) = some (keyD (vs[n.toNat - 1]?.getD (.inl 0))) := by
  obtain ⟨m, rfl⟩ : ∃ m : Nat, n = (m : Int) + 1 := ⟨(n - 1).toNat, by omega⟩
  have hm : m < vs.length := by omega
  have e : (m : Int) + 1 - 1 = (m : Int) := by omega
  rw [e, atI_nat', List.getElem?_map]
  have e2 : ((m : Int) + 1).toNat - 1 = m := by omega
  rw [e2, List.getElem?_eq_getElem hm]
  rfl
theorem maxI_ge {z : Int} {ns : List Int} {n : Int} (h : n ∈ ns) : n ≤ maxI z ns := by
  cases ns with
  | nil => cases h
  | cons m ns => exact (foldl_max ns m).2 n h
theorem par_le {st : Stm} {t : Tm} {n : Int} {w x : Str} {ts : List Tm} (e : st = .on w x ts) (ht : t ∈ ts) (hn : parA t = some n) : n ≤ needS st := by
  subst e
  exact maxI_ge (List.mem_filterMap.mpr ⟨t, ht, hn⟩)
theorem w_filled : ∀ ds μ Q QX, μ.wf → objBs μ.next ds = true → sp_filled ds μ Q QX → ds.length = 2 ∧ wpS c_filled (startE N_filled ds) μ (outs μ.next Q QX) := by
  intro ds μ Q QX hw ho h
  unfold sp_filled at h
  split at h
  · obtain ⟨st, vs, rfl, rfl, hok, hn, h1⟩ := h
    refine ⟨rfl, ?_⟩
    have := sz1000
    cases st with
    | bare w =>
      simp [startE, wpS, wpT, wpE, wpA, wpI, wpG, wpGs, wpOpt, spLen, spIsi, spInt, spStr, spTup, spLst, spMax, spApp, spFind, spSplit, spJoin, spDget, tn_str, tn_int, tn_bl, tn_non, tn_tup, tn_lst, tn_scr, td_str, td_lst, isB, tys, truD, cmpD, binD, slD, ixD, outs, eAllS, eAllN, eMaxD, eGin, eGinT, eGix, eRse, eCal0, drf, sq_tup, sq_lst, sq_scr, sq_str, sq_int, sq_non, l_lst, l_scr, l_tup, lm_lst, lm_str, lm_int, lm_tup, lm_non, lm_bl, eqOk_str, eqOk_int, eqOk_non, deq_int, deq_str, two_le, isNonD, tysOf, c_filled, N_filled, stmD, stmL, cut_02, cut_2, spLstM, it_tup, loopF, Sto.new_same]
      refine fin_part (part_del hw (part_mk hw (part_self hw)) (Nat.le_refl _)) rfl h1
    | on w x ts =>
      obtain ⟨hp, hlen⟩ := hok
      have htl : ts.length ≤ 2 := by
        rcases hlen with ⟨_, z⟩ | ⟨_, z⟩ | ⟨_, z⟩ <;> omega
      simp [startE, wpS, wpT, wpE, wpA, wpI, wpG, wpGs, wpOpt, spLen, spIsi, spInt, spStr, spTup, spLst, spMax, spApp, spFind, spSplit, spJoin, spDget, tn_str, tn_int, tn_bl, tn_non, tn_tup, tn_lst, tn_scr, td_str, td_lst, isB, tys, truD, cmpD, binD, slD, ixD, outs, eAllS, eAllN, eMaxD, eGin, eGinT, eGix, eRse, eCal0, drf, sq_tup, sq_lst, sq_scr, sq_str, sq_int, sq_non, l_lst, l_scr, l_tup, lm_lst, lm_str, lm_int, lm_tup, lm_non, lm_bl, eqOk_str, eqOk_int, eqOk_non, deq_int, deq_str, two_le, isNonD, tysOf, c_filled, N_filled, stmD, stmL, cut_02, cut_2, spLstM, it_tup]
      refine for_gen (fun i δ μ' => ∃ o, δ = [some (.tup (.str w :: .str x :: ts.map tmD)), some (.tup (vs.map keyD)), some (.obj μ.next), o] ∧ μ.Part μ' ∧ μ'.cell μ.next = some (.lst (.str w :: .str x :: ((ts.take i).map (fillA vs)).map keyD))) ⟨_, rfl, part_mk hw (part_self hw), Sto.new_same⟩ ?_ ?_
      · rintro i d LW hd hLW δ μ' ⟨o, rfl, q1, q2⟩
        rw [List.getElem?_map] at hd
        obtain ⟨t, ht, rfl⟩ := Option.map_eq_some_iff.mp hd
        have hm := List.mem_of_getElem? ht
        have e : ((ts.take (i + 1)).map (fillA vs)).map keyD = ((ts.take i).map (fillA vs)).map keyD ++ [keyD (fillA vs t)] := by
          rw [List.take_add_one, ht]
          simp
        have hz : (((ts.take i).map (fillA vs)).map keyD).length ≤ 2 := by simp; omega
        rw [e] at hLW
        generalize ((ts.take i).map (fillA vs)).map keyD = L at q2 hz hLW
        have hz2 : L.length + 1 + 1 < sizeLine := by omega
        refine ⟨trivial, ?_⟩
        cases t with
        | num n =>
          simp [startE, wpS, wpT, wpE, wpA, wpI, wpG, wpGs, wpOpt, spLen, spIsi, spInt, spStr, spTup, spLst, spMax, spApp, spFind, spSplit, spJoin, spDget, tn_str, tn_int, tn_bl, tn_non, tn_tup, tn_lst, tn_scr, td_str, td_lst, isB, tys, truD, cmpD, binD, slD, ixD, outs, eAllS, eAllN, eMaxD, eGin, eGinT, eGix, eRse, eCal0, drf, sq_tup, sq_lst, sq_scr, sq_str, sq_int, sq_non, l_lst, l_scr, l_tup, lm_lst, lm_str, lm_int, lm_tup, lm_non, lm_bl, eqOk_str, eqOk_int, eqOk_non, deq_int, deq_str, two_le, isNonD, tysOf, b1_filled, tmD, td_obj q2, q2, hz2]
          exact hLW _ _ ⟨_, rfl, part_put hw q1 (Nat.le_refl _), by rw [Sto.put_same]; rfl⟩
        | txt l =>
          simp [startE, wpS, wpT, wpE, wpA, wpI, wpG, wpGs, wpOpt, spLen, spIsi, spInt, spStr, spTup, spLst, spMax, spApp, spFind, spSplit, spJoin, spDget, tn_str, tn_int, tn_bl, tn_non, tn_tup, tn_lst, tn_scr, td_str, td_lst, isB, tys, truD, cmpD, binD, slD, ixD, outs, eAllS, eAllN, eMaxD, eGin, eGinT, eGix, eRse, eCal0, drf, sq_tup, sq_lst, sq_scr, sq_str, sq_int, sq_non, l_lst, l_scr, l_tup, lm_lst, lm_str, lm_int, lm_tup, lm_non, lm_bl, eqOk_str, eqOk_int, eqOk_non, deq_int, deq_str, two_le, isNonD, tysOf, b1_filled, tmD, txtD, td_obj q2, q2, hz2, atI_zero, atI_one]
          exact hLW _ _ ⟨_, rfl, part_put hw q1 (Nat.le_refl _), by rw [Sto.put_same]; rfl⟩
        | par n =>
          obtain ⟨n1, n2⟩ := hp _ hm n rfl
          have n3 : n ≤ vs.length := Int.le_trans (par_le rfl hm rfl) hn
          simp [startE, wpS, wpT, wpE, wpA, wpI, wpG, wpGs, wpOpt, spLen, spIsi, spInt, spStr, spTup, spLst, spMax, spApp, spFind, spSplit, spJoin, spDget, tn_str, tn_int, tn_bl, tn_non, tn_tup, tn_lst, tn_scr, td_str, td_lst, isB, tys, truD, cmpD, binD, slD, ixD, outs, eAllS, eAllN, eMaxD, eGin, eGinT, eGix, eRse, eCal0, drf, sq_tup, sq_lst, sq_scr, sq_str, sq_int, sq_non, l_lst, l_scr, l_tup, lm_lst, lm_str, lm_int, lm_tup, lm_non, lm_bl, eqOk_str, eqOk_int, eqOk_non, deq_int, deq_str, two_le, isNonD, tysOf, b1_filled, tmD, parD, td_obj q2, q2, hz2, getD_at n1 n3, atI_zero, atI_one]
          exact hLW _ _ ⟨_, rfl, part_put hw q1 (Nat.le_refl _), by rw [Sto.put_same]; rfl⟩
      · rintro δ μ' ⟨o, rfl, q1, q2⟩
        refine ⟨trivial, ?_⟩
        rw [List.length_map, List.take_length] at q2
        simp [startE, wpS, wpT, wpE, wpA, wpI, wpG, wpGs, wpOpt, spLen, spIsi, spInt, spStr, spTup, spLst, spMax, spApp, spFind, spSplit, spJoin, spDget, tn_str, tn_int, tn_bl, tn_non, tn_tup, tn_lst, tn_scr, td_str, td_lst, isB, tys, truD, cmpD, binD, slD, ixD, outs, eAllS, eAllN, eMaxD, eGin, eGinT, eGix, eRse, eCal0, drf, sq_tup, sq_lst, sq_scr, sq_str, sq_int, sq_non, l_lst, l_scr, l_tup, lm_lst, lm_str, lm_int, lm_tup, lm_non, lm_bl, eqOk_str, eqOk_int, eqOk_non, deq_int, deq_str, two_le, isNonD, tysOf, q2]
        rw [show ts.map (keyD ∘ fillA vs) = (ts.map (fillA vs)).map keyD from (List.map_map ..).symm]
        exact fin_part (part_del hw q1 (Nat.le_refl _)) (objBs_map (n := μ.next) (f := keyD) (l := ts.map (fillA vs)) fun k _ => keyD_B _ k) h1
  · exact h.elim
end M
end

section
set_option Elab.async false
set_option linter.all false
set_option maxRecDepth 100000
set_option maxHeartbeats 4000000
set_option autoImplicit false
namespace M
open PySem PySem.Spec PyProof.Rows L2
open SX (S S_len S_cat)
def tupOf (d : D) : D := match d with
  | .lst ds => .tup ds
  | d => d
theorem tupOf_seq {d : D} {ds : List D} (h : SeqOf d ds) : tupOf d = .tup ds := by
  rcases h with rfl | rfl <;> rfl
theorem spTup_seq {d : D} {ds : List D} {μ : Sto} {Q : Post} {E : XPost} (h : SeqOf d ds) (q : Q (.tup ds) μ) : spTup [d] μ Q E := by
  unfold spTup
  rcases h with rfl | rfl <;> exact q
theorem All2.len {α β : Type} {R : α → β → Prop} : ∀ {l : List α} {m : List β}, All2 R l m → l.length = m.length
  | [], [], _ => rfl
  | _ :: _, _ :: _, ⟨_, h⟩ => by rw [List.length_cons, List.length_cons, All2.len h]
theorem All2.map {α β γ : Type} {R : α → β → Prop} {f : α → γ} {g : β → γ} (h : ∀ a b, R a b → f a = g b) : ∀ {l : List α} {m : List β}, All2 R l m → l.map f = m.map g
  | [], [], _ => rfl
  | a :: _, b :: _, ⟨r, t⟩ => by rw [List.map_cons, List.map_cons, h a b r, All2.map h t]
theorem All2.left {α β : Type} {R : α → β → Prop} : ∀ {l : List α} {m : List β}, All2 R l m → ∀ a ∈ l, ∃ b ∈ m, R a b
  | [], [], _, a, h => by cases h
  | x :: l, b :: m, ⟨r, t⟩, a, h => by
    rcases List.mem_cons.mp h with rfl | h
    · exact ⟨b, by simp, r⟩
    · obtain ⟨c, hc, rc⟩ := All2.left t a h
      exact ⟨c, by simp [hc], rc⟩
theorem getA_none {α : Type} {l : List (Str × α)} {k : Str} (h : k ∉ l.map (·.1)) : (getA l k).isSome = false := by
  unfold getA
  rw [some_map, Option.isSome_eq_false_iff, Option.isNone_iff_eq_none, List.find?_eq_none]
  intro t m e
  exact h (List.mem_map.mpr ⟨t, m, by simpa using e⟩)
theorem w_store_of : ∀ ds μ Q QX, μ.wf → objBs μ.next ds = true → sp_store_of ds μ Q QX → ds.length = 1 ∧ wpS c_store_of (startE N_store_of ds) μ (outs μ.next Q QX) := by
  intro ds μ Q QX hw ho h
  unfold sp_store_of at h
  split at h
  · obtain ⟨tds, s, hs, hr, hok, hnd, h1⟩ := h
    refine ⟨rfl, ?_⟩
    have := sz1000
    simp [startE, wpS, wpT, wpE, wpA, wpI, wpG, wpGs, wpOpt, outs, wipeE, ePar, c_store_of, N_store_of, two_le]
    rw [it_seq hs]
    have fin : finP μ.next Q (.obj μ.next) (μ.new (.dct (stoK s))) := fin_all (wf_new hw (stoK_B _ _)) (Nat.le_succ _) (decide_eq_true (Nat.lt_succ_self _)) h1
    clear h1 hs ho
    suffices ∀ (tds : List D) (s0 s1 : Store), s0 ++ s1 = s → TabsR tds s1 → loopK _ (fun _ => True) (fun kvs μ2 => finP μ.next Q (.obj μ2.next) (μ2.new (.dct kvs))) tds (stoK s0) μ from this tds [] s rfl hr
    intro tds
    induction tds with
    | nil =>
      intro s0 s1 e hr
      cases s1 with
      | nil =>
        rw [List.append_nil] at e
        subst e
        exact ⟨trivial, fin⟩
      | cons t s1 => exact hr.elim
    | cons td tds ih =>
      intro s0 s1 e hr
      cases s1 with
      | nil => exact hr.elim
      | cons t s1 =>
        obtain ⟨⟨rd, rds, h1, h2, h3⟩, hr2⟩ := hr
        have hlen : s0.length + 1 ≤ 4 := by
          have := hok.1
          rw [← e] at this
          simp at this
          omega
        have ht : t.2.length ≤ 20 := (hok.2 t (by rw [← e]; simp)).1
        have hn : t.1 ∉ s0.map (·.1) := by
          rw [← e, List.map_append, List.map_cons, List.nodup_append] at hnd
          intro z
          exact hnd.2.2 t.1 z t.1 (by simp) rfl
        refine ⟨trivial, ?_⟩
        dsimp only
        rw [asSeq_seq h1]
        refine ⟨rfl, rfl, ?_⟩
        rw [it_seq h2]
        refine loopC_map tupOf trivial (fun x hx N hN => ?_) (by rw [h3.len]; omega) ?_
        · obtain ⟨row, _, hrow⟩ := h3.left x hx
          refine spTup_seq hrow ?_
          rw [tupOf_seq hrow] at hN
          exact hN
        · rw [h3.map (g := rowD) fun a b hab => tupOf_seq hab]
          refine spTup_seq (.inr rfl) ?_
          refine ⟨by rw [sto_len]; omega, ?_⟩
          have e3 : putD (stoK s0) (.inr t.1) (.tup (t.2.map rowD)) = stoK (s0 ++ [t]) := by
            rw [← putA_new (l := s0) (k := t.1) (v := t.2) (getA_none hn)]
            exact sto_put
          rw [e3]
          exact ih (s0 ++ [t]) s1 (by rw [← e]; simp) hr2
  · exact h.elim
def lstOf (d : D) : D := match d with
  | .tup [k, .tup rs] => .tup [k, .lst rs]
  | d => d
theorem put_back {μ : Sto} {j : Nat} {c c' : Cell} (h : μ.cell j = some c) : (μ.put j c').put j c = μ := by rw [put_put, put_self h]
theorem tabsD_B {n : Nat} (s : Store) : objB n (tabsD s) = true := objBs_map fun t _ => by
  show (true && (objB n (.lst (t.2.map rowD)) && true)) = true
  rw [rows_B]
  rfl
theorem w_tables_of : ∀ ds μ Q QX, μ.wf → objBs μ.next ds = true → sp_tables_of ds μ Q QX → ds.length = 1 ∧ wpS c_tables_of (startE N_tables_of ds) μ (outs μ.next Q QX) := by
  intro ds μ Q QX hw ho h
  unfold sp_tables_of at h
  split at h
  · rename_i j
    obtain ⟨s, hj, hok, h1⟩ := h
    refine ⟨rfl, ?_⟩
    have := sz1000
    simp [startE, wpS, wpT, wpE, wpA, wpI, wpG, wpGs, wpOpt, outs, wipeE, ePar, c_tables_of, N_tables_of, two_le, lckD, hj, Sto.put_same]
    intro o es
    have hl := hok.1
    refine loopC_map lstOf Sto.put_same (fun x hx N hN => ?_) (by rw [List.length_map, sto_len]; omega) ?_
    · obtain ⟨kv, hk, rfl⟩ := List.mem_map.mp hx
      obtain ⟨t, ht, rfl⟩ := List.mem_map.mp hk
      simp [startE, wpS, wpT, wpE, wpA, wpI, wpG, wpGs, wpOpt, outs, wipeE, ePar, sq_tup, spLst, tabD, two_le]
      exact hN
    · refine ⟨Sto.put_same, ?_⟩
      rw [put_back hj]
      have e : ((stoK s).map fun kv => D.tup [keyD kv.1, kv.2]).map lstOf = s.map fun t => .tup [.str t.1, .lst (t.2.map rowD)] := by
        unfold stoK mapK
        rw [List.map_map, List.map_map]
        rfl
      rw [e]
      exact fin_same hw (tabsD_B s) h1
  · exact h.elim
theorem w_Portal___init__ : ∀ ds μ Q QX, μ.wf → objBs μ.next ds = true → sp_Portal___init__ ds μ Q QX → ds.length = 3 ∧ wpS c_Portal___init__ (startE N_Portal___init__ ds) μ (outs μ.next Q QX) := by
  intro ds μ Q QX hw ho h
  unfold sp_Portal___init__ at h
  split at h
  · rename_i j p v
    obtain ⟨hj, h1⟩ := h
    refine ⟨rfl, ?_⟩
    simp (decide := true) [startE, wpS, wpT, wpE, wpA, wpI, wpG, wpGs, wpOpt, outs, wipeE, ePar, c_Portal___init__, N_Portal___init__, eSet, setD, insD, hj, Sto.put_same, setF, put_put]
    have ho : (decide (j < μ.next) && (objB μ.next p && (objB μ.next v && true))) = true := ho
    simp only [Bool.and_eq_true] at ho
    refine fin_all (wf_put hw (hw _ _ hj).1 ?_) (Nat.le_refl _) rfl h1
    show (objB μ.next p && (objB μ.next v && (true && (true && true)))) = true
    rw [ho.2.1, ho.2.2.1]
    rfl
  · exact h.elim
end M
end

section
set_option Elab.async false
set_option linter.all false
set_option maxRecDepth 100000
set_option maxHeartbeats 4000000
set_option autoImplicit false
namespace M
open PySem PySem.Spec PyProof.Rows L2
open SX (S S_len S_cat)
section
variable {μ : Sto} {j : Nat} {R : RS} {F : Cells} {Q : Post} {E : XPost} {δ : Env} {O : Outs}
/-- what the core's cells are -/
structure CoreAt (μ : Sto) (j : Nat) (R : RS) : Prop where
  j : μ.cell j = some (insS R)
  a : μ.cell R.a = some (.dct (stoK R.store))
  b : μ.cell R.b = some (.dct (stoK R.base))
  c : μ.cell R.c = some (.lst (R.saves.map savD))
  d : μ.cell R.d = some (.dct (mapK stmD R.stms))
  e : μ.cell R.e = some (.dct (mapK (fun t : Nat × Port => .obj t.1) R.ports))
  s : ∀ t ∈ R.saves, μ.cell t.2.1 = some (.dct (stoK t.2.2))
theorem HW.core (h : HW μ (coreC j R ++ F)) : CoreAt μ j R :=
  ⟨h.get (by simp [coreC]), h.get (by simp [coreC]), h.get (by simp [coreC]), h.get (by simp [coreC]), h.get (by simp [coreC]), h.get (by simp [coreC]), fun t m => h.get (List.mem_append_left _ (by
    unfold coreC savesC
    simp only [List.mem_cons]
    exact .inr (.inr (.inr (.inr (.inr (.inr (List.mem_map.mpr ⟨t, m, rfl⟩))))))))⟩
theorem ins_B (h : HW μ (coreC j R ++ F)) {n : Nat} (hn : μ.next ≤ n) {x : Cell} (he : x = insS R) : cellB n x = true := by
  subst he
  exact cellB_up hn (h.wf _ _ h.core.j).2
theorem insS_B {n : Nat} {R : RS} (ha : R.a < n) (hb : R.b < n) (hc : R.c < n) (hd : R.d < n) (he : R.e < n) : cellB n (insS R) = true := by
  show (decide (R.a < n) && (decide (R.b < n) && (true && (decide (R.c < n) && (decide (R.d < n) && (decide (R.e < n) && true)))))) = true
  simp [ha, hb, hc, hd, he]
structure CoreLt (n : Nat) (j : Nat) (R : RS) : Prop where
  j : j < n
  a : R.a < n
  b : R.b < n
  c : R.c < n
  d : R.d < n
  e : R.e < n
theorem HW.clt (h : HW μ (coreC j R ++ F)) : CoreLt μ.next j R := ⟨(h.wf _ _ h.core.j).1, (h.wf _ _ h.core.a).1, (h.wf _ _ h.core.b).1, (h.wf _ _ h.core.c).1, (h.wf _ _ h.core.d).1, (h.wf _ _ h.core.e).1⟩
theorem fl_gen {f : Str} {v : D} {c : Nat} {fs : List (Str × D)} (h : μ.cell j = some (.ins c fs)) (hv : fs.lookup f = some v) : eFld [c] f δ [.obj j] μ Q E = Q v μ := by simp [eFld, fldD, insD, h, hv]
theorem fl_store (h : μ.cell j = some (insS R)) : eFld [11] "_store" δ [.obj j] μ Q E = Q (.obj R.a) μ := fl_gen h rfl
theorem fl_base (h : μ.cell j = some (insS R)) : eFld [11] "_base" δ [.obj j] μ Q E = Q (.obj R.b) μ := fl_gen h rfl
theorem fl_state (h : μ.cell j = some (insS R)) : eFld [11] "_state" δ [.obj j] μ Q E = Q (.str R.mode) μ := fl_gen h rfl
theorem fl_saves (h : μ.cell j = some (insS R)) : eFld [11] "_savepoints" δ [.obj j] μ Q E = Q (.obj R.c) μ := fl_gen h rfl
theorem fl_stms (h : μ.cell j = some (insS R)) : eFld [11] "_statements" δ [.obj j] μ Q E = Q (.obj R.d) μ := fl_gen h rfl
theorem fl_ports (h : μ.cell j = some (insS R)) : eFld [11] "_portals" δ [.obj j] μ Q E = Q (.obj R.e) μ := fl_gen h rfl
theorem se_store {x : Nat} (h : μ.cell j = some (insS R)) : eSet [11] "_store" δ [.obj x, .obj j] μ O = O.nx δ (μ.put j (insS { R with a := x })) := by simp (decide := true) [eSet, setD, insD, h, insS, setF]
theorem se_base {x : Nat} (h : μ.cell j = some (insS R)) : eSet [11] "_base" δ [.obj x, .obj j] μ O = O.nx δ (μ.put j (insS { R with b := x })) := by simp (decide := true) [eSet, setD, insD, h, insS, setF]
theorem se_state {x : Str} (h : μ.cell j = some (insS R)) : eSet [11] "_state" δ [.str x, .obj j] μ O = O.nx δ (μ.put j (insS { R with mode := x })) := by simp (decide := true) [eSet, setD, insD, h, insS, setF]
theorem se_saves {x : Nat} (h : μ.cell j = some (insS R)) : eSet [11] "_savepoints" δ [.obj x, .obj j] μ O = O.nx δ (μ.put j (insS { R with c := x })) := by simp (decide := true) [eSet, setD, insD, h, insS, setF]
theorem se_ports {x : Nat} (h : μ.cell j = some (insS R)) : eSet [11] "_portals" δ [.obj x, .obj j] μ O = O.nx δ (μ.put j (insS { R with e := x })) := by simp (decide := true) [eSet, setD, insD, h, insS, setF]
/-! ### steps on the core's cells -/
theorem HW.setMode (h : HW μ (coreC j R ++ F)) (m : Str) : HW (μ.put j (insS { R with mode := m })) (coreC j { R with mode := m } ++ F) :=
  have l := h.clt
  HW.put (A := []) (c' := insS { R with mode := m }) h (insS_B l.a l.b l.c l.d l.e)
theorem new_j (h : HW μ (coreC j R ++ F)) (c : Cell) : (μ.new c).cell j = some (insS R) := by
  rw [Sto.new_ne (Nat.ne_of_lt h.clt.j)]
  exact h.core.j
theorem HW.newStore (h : HW μ (coreC j R ++ F)) (s : Store) : HW ((μ.new (.dct (stoK s))).put j (insS { R with a := μ.next })) (coreC j { R with a := μ.next, store := s } ++ F) :=
  have l := h.clt
  have h1 := HW.new (A := [(j, insS R)]) h (stoK_B (μ.next + 1) s)
  have h2 := HW.put (A := []) (c' := insS { R with a := μ.next }) h1 (insS_B (Nat.lt_succ_self _) (Nat.lt_succ_of_lt l.b) (Nat.lt_succ_of_lt l.c) (Nat.lt_succ_of_lt l.d) (Nat.lt_succ_of_lt l.e))
  HW.drop (A := [_, _]) h2
theorem HW.newBase (h : HW μ (coreC j R ++ F)) (s : Store) : HW ((μ.new (.dct (stoK s))).put j (insS { R with b := μ.next })) (coreC j { R with b := μ.next, base := s } ++ F) :=
  have l := h.clt
  have h1 := HW.new (A := [_, _]) h (stoK_B (μ.next + 1) s)
  have h2 := HW.put (A := []) (c' := insS { R with b := μ.next }) h1 (insS_B (Nat.lt_succ_of_lt l.a) (Nat.lt_succ_self _) (Nat.lt_succ_of_lt l.c) (Nat.lt_succ_of_lt l.d) (Nat.lt_succ_of_lt l.e))
  HW.drop (A := [_, _, _]) h2
theorem HW.newPorts (h : HW μ (coreC j R ++ F)) : HW ((μ.new (.dct [])).put j (insS { R with e := μ.next })) (coreC j { R with e := μ.next, ports := [] } ++ F) :=
  have l := h.clt
  have h1 := HW.new (A := [_, _, _, _, _]) (c := .dct []) h rfl
  have h2 := HW.put (A := []) (c' := insS { R with e := μ.next }) h1 (insS_B (Nat.lt_succ_of_lt l.a) (Nat.lt_succ_of_lt l.b) (Nat.lt_succ_of_lt l.c) (Nat.lt_succ_of_lt l.d) (Nat.lt_succ_self _))
  HW.drop (A := [_, _, _, _, _, _]) h2
theorem sav_B {n : Nat} {l : List (Str × Nat × Store)} (h : ∀ t ∈ l, t.2.1 < n) : cellB n (.lst (l.map savD)) = true := objBs_map fun t m => by
  show (true && (decide (t.2.1 < n) && true)) = true
  simp [h t m]
theorem HW.slt (h : HW μ (coreC j R ++ F)) {t : Str × Nat × Store} (m : t ∈ R.saves) : t.2.1 < μ.next := (h.wf _ _ (h.core.s t m)).1
theorem HW.newSaves (h : HW μ (coreC j R ++ F)) (k : Nat) : HW ((μ.new (.lst ((R.saves.take k).map savD))).put j (insS { R with c := μ.next })) (coreC j { R with c := μ.next, saves := R.saves.take k } ++ F) := by
  have l := h.clt
  have h1 := HW.new (A := [_, _, _]) (c := .lst ((R.saves.take k).map savD)) h (sav_B fun t m => Nat.lt_succ_of_lt (h.slt (List.mem_of_mem_take m)))
  have h2 := HW.put (A := []) (c' := insS { R with c := μ.next }) h1 (insS_B (Nat.lt_succ_of_lt l.a) (Nat.lt_succ_of_lt l.b) (Nat.lt_succ_self _) (Nat.lt_succ_of_lt l.d) (Nat.lt_succ_of_lt l.e))
  have h3 := HW.drop (A := [_, _, _, _]) h2
  refine h3.sub ?_
  refine .cons₂ _ (.cons₂ _ (.cons₂ _ (.cons₂ _ (.cons₂ _ (.cons₂ _ (List.Sublist.append ?_ (.refl _)))))))
  exact (List.take_sublist _ _).map _
theorem fin_core {μ' : Sto} {R' : RS} {r : CS × Bool × Ans} (h : postC j R F μ r Q) (hh : HW μ' (coreC j R' ++ F)) (hr : relC R R' r) (hn : μ.next ≤ μ'.next) : finP μ.next Q (ansD r.2.2) μ' := fin_all hh.wf hn (ansD_B _ _) (h μ' R' hh hr hn)
theorem relC.self {a : Ans} : relC R R (R.core, false, a) := ⟨rfl, rfl, rfl⟩
end
theorem w_Session__begin : ∀ ds μ Q QX, μ.wf → objBs μ.next ds = true → sp_Session__begin ds μ Q QX → ds.length = 1 ∧ wpS c_Session__begin (startE N_Session__begin ds) μ (outs μ.next Q QX) := by
  intro ds μ Q QX hw ho h
  unfold sp_Session__begin at h
  split at h
  · rename_i j
    obtain ⟨R, F, hh, hok, h1⟩ := h
    refine ⟨rfl, ?_⟩
    have hj := hh.core.j
    simp [startE, wpS, wpT, wpE, wpA, wpI, wpG, wpGs, wpOpt, outs, wipeE, ePar, c_Session__begin, N_Session__begin, fl_state hj, se_state hj, cmp_eq_str, two_le]
    unfold doC at h1
    dsimp only at h1
    rw [if_pos rfl] at h1
    by_cases e : R.core.mode = "open"
    · rw [if_pos e] at h1
      rw [if_pos (show R.mode = "open" from e)]
      exact fin_core h1 hh .self (Nat.le_refl _)
    · rw [if_neg e] at h1
      rw [if_neg (show ¬ R.mode = "open" from e)]
      exact fin_core h1 (hh.setMode "open") ⟨rfl, rfl, rfl⟩ (Nat.le_refl _)
  · exact h.elim
section
variable {μ : Sto} {j : Nat} {R : RS} {F : Cells} {Q : Post} {E : XPost}
theorem dct_ap {k : Nat} {kvs : List (Key × D)} (h : μ.cell k = some (.dct kvs)) : spDct [.obj k] μ Q E = Q (.obj μ.next) (μ.new (.dct kvs)) := by simp [spDct, akm_dct h]
theorem len_obj {k : Nat} {ds : List D} (h : μ.cell k = some (.lst ds)) : spLen [.obj k] μ Q E = Q (.int ds.length) μ := by simp [spLen, sq_obj h]
theorem app_obj {k : Nat} {ds : List D} {x : D} (h : μ.cell k = some (.lst ds)) (hl : ds.length < sizeLine) : spApp [.obj k, x] μ Q E = Q .non (μ.put k (.lst (ds ++ [x]))) := by simp [spApp, h, hl]
theorem HW.addSave (h : HW μ (coreC j R ++ F)) (n : Str) : HW ((μ.new (.dct (stoK R.store))).put R.c (.lst ((R.saves ++ [(n, μ.next, R.store)]).map savD))) (coreC j { R with saves := R.saves ++ [(n, μ.next, R.store)] } ++ F) := by
  have h1 := HW.new (A := coreC j R) h (stoK_B (μ.next + 1) R.store)
  have h2 := HW.put (A := [_, _, _]) (c' := .lst ((R.saves ++ [(n, μ.next, R.store)]).map savD)) h1 (sav_B fun t m => by
    rcases List.mem_append.mp m with m | m
    · exact Nat.lt_succ_of_lt (h.slt m)
    · rw [List.mem_singleton] at m
      subst m
      exact Nat.lt_succ_self _)
  have e : coreC j { R with saves := R.saves ++ [(n, μ.next, R.store)] } ++ F = [(j, insS R), (R.a, .dct (stoK R.store)), (R.b, .dct (stoK R.base))] ++ (R.c, .lst ((R.saves ++ [(n, μ.next, R.store)]).map savD)) :: ((R.d, .dct (mapK stmD R.stms)) :: (R.e, .dct (mapK (fun t : Nat × Port => .obj t.1) R.ports)) :: savesC R ++ (μ.next, Cell.dct (stoK R.store)) :: F) := by
    simp [coreC, savesC, insS]
  rw [e]
  exact h2
end
theorem w_Session__save : ∀ ds μ Q QX, μ.wf → objBs μ.next ds = true → sp_Session__save ds μ Q QX → ds.length = 2 ∧ wpS c_Session__save (startE N_Session__save ds) μ (outs μ.next Q QX) := by
  intro ds μ Q QX hw ho h
  unfold sp_Session__save at h
  split at h
  · rename_i j n
    obtain ⟨R, F, hh, hok, h1⟩ := h
    refine ⟨rfl, ?_⟩
    have hj := hh.core.j
    have hc := hh.core.c
    have := sz1000
    have hl : R.saves.length ≤ 10 := by
      have := hok.2.2.2.1
      simpa [RS.core] using this
    simp [startE, wpS, wpT, wpE, wpA, wpI, wpG, wpGs, wpOpt, outs, wipeE, ePar, c_Session__save, N_Session__save, fl_saves hj, fl_store hj, len_obj hc, cmp_eq_int, td_obj hc, dct_ap hh.core.a, two_le]
    unfold saveC at h1
    have el : R.core.saves.length = R.saves.length := by simp [RS.core]
    rw [el] at h1
    by_cases e : R.saves.length = 10
    · rw [if_pos e] at h1
      rw [if_pos (by omega)]
      exact fin_core h1 hh .self (Nat.le_refl _)
    · rw [if_neg e] at h1
      rw [if_neg (by omega)]
      have hc1 : (μ.new (.dct (stoK R.store))).cell R.c = some (.lst (R.saves.map savD)) := by rw [Sto.new_ne (Nat.ne_of_lt hh.clt.c)]; exact hc
      rw [app_obj hc1 (by rw [List.length_map]; omega)]
      have e3 : R.saves.map savD ++ [D.tup [.str n, .obj μ.next]] = (R.saves ++ [(n, μ.next, R.store)]).map savD := by rw [List.map_append]; rfl
      rw [e3]
      refine fin_core h1 (hh.addSave n) ⟨?_, rfl, rfl⟩ (Nat.le_succ _)
      simp [RS.core]
  · exact h.elim
theorem w_Session__end : ∀ ds μ Q QX, μ.wf → objBs μ.next ds = true → sp_Session__end ds μ Q QX → ds.length = 2 ∧ wpS c_Session__end (startE N_Session__end ds) μ (outs μ.next Q QX) := by
  intro ds μ Q QX hw ho h
  unfold sp_Session__end at h
  split at h
  · rename_i j w
    obtain ⟨R, F, hh, hok, h1⟩ := h
    refine ⟨rfl, ?_⟩
    have hj := hh.core.j
    have hfin : ∀ (μ1 : Sto) (R1 : RS) (a : Ans), HW μ1 (coreC j R1 ++ F) → μ.next ≤ μ1.next → R1.stms = R.stms → postC j R F μ (⟨R1.store, R1.base, "none", []⟩, true, a) Q →
        a = (if w = "commit" ∧ R.mode = "failed" then .wrong "rolled back" else .complete 0) → wpS r2_Session__end [some (.obj j), some (.str w), some (.bl (decide (R.mode = "failed")))] μ1 (outs μ.next Q QX) := by
      intro μ1 R1 a hh1 hn hs h2 ha
      have hj1 := hh1.core.j
      simp [startE, wpS, wpT, wpE, wpA, wpI, wpG, wpGs, wpOpt, outs, wipeE, ePar, r2_Session__end, se_state hj1, r3_Session__end]
      have hh2 := hh1.setMode "none"
      generalize e2 : μ1.put j (insS { R1 with mode := "none" }) = μ2 at hh2 ⊢
      have hn2 : μ.next ≤ μ2.next := by rw [← e2]; exact hn
      rw [se_saves (new_j hh2 _)]
      have hh3 := hh2.newSaves 0
      rw [show ((R1.saves.take 0).map savD) = [] from rfl] at hh3
      generalize e3 : (μ2.new (Cell.lst [])).put j _ = μ3 at hh3 ⊢
      have hn3 : μ.next ≤ μ3.next := by rw [← e3]; exact Nat.le_succ_of_le hn2
      simp [startE, wpS, wpT, wpE, wpA, wpI, wpG, wpGs, wpOpt, outs, wipeE, ePar, r4_Session__end, eDnil]
      rw [se_ports (new_j hh3 _)]
      have hh4 := hh3.newPorts
      generalize e4 : (μ3.new (Cell.dct [])).put j _ = μ4 at hh4 ⊢
      have hn4 : μ.next ≤ μ4.next := by rw [← e4]; exact Nat.le_succ_of_le hn3
      simp [startE, wpS, wpT, wpE, wpA, wpI, wpG, wpGs, wpOpt, outs, wipeE, ePar, r5_Session__end, r6_Session__end, cmp_eq_str, truD, two_le]
      have fin : ∀ d, d = ansD a → finP μ.next Q d μ4 := fun d ed => by
        subst ed
        exact fin_core h2 hh4 ⟨rfl, hs, rfl⟩ hn4
      by_cases w1 : w = "commit"
      · rw [if_pos w1]
        by_cases w2 : R.mode = "failed"
        · rw [if_pos w2]
          exact fin _ (by rw [ha, if_pos ⟨w1, w2⟩]; rfl)
        · rw [if_neg w2]
          exact fin _ (by rw [ha, if_neg fun z => w2 z.2]; rfl)
      · rw [if_neg w1]
        exact fin _ (by rw [ha, if_neg fun z => w1 z.1]; rfl)
    simp [startE, wpS, wpT, wpE, wpA, wpI, wpG, wpGs, wpOpt, outs, wipeE, ePar, c_Session__end, N_Session__end, r1_Session__end, fl_state hj, fl_store hj, fl_base hj, cmp_eq_str, dct_ap hh.core.a, dct_ap hh.core.b, two_le, truD]
    have store : w = "commit" ∧ R.mode = "failed" ∨ ¬ w = "commit" → eSet [11] "_store" [some (.obj j), some (.str w), some (.bl (decide (R.mode = "failed")))] [.obj μ.next, .obj j] (μ.new (.dct (stoK R.base)))
        ⟨fun δ' μ' => wpS r2_Session__end δ' μ' (outs μ.next Q QX), (outs μ.next Q QX).rt, (outs μ.next Q QX).bk, (outs μ.next Q QX).ct, (outs μ.next Q QX).xc⟩ := fun hz => by
      rw [se_store (new_j hh _)]
      refine hfin _ { R with a := μ.next, store := R.base } _ (hh.newStore R.base) (Nat.le_succ _) rfl ?_ rfl
      unfold endC at h1
      rw [if_neg fun x => hz.elim (fun z => x.2 z.2) fun z => z x.1] at h1
      exact h1
    by_cases w1 : w = "commit"
    · rw [if_pos w1]
      by_cases w2 : R.mode = "failed"
      · rw [if_pos w2]
        exact store (.inl ⟨w1, w2⟩)
      · rw [if_neg w2, se_base (new_j hh _)]
        refine hfin _ { R with b := μ.next, base := R.store } _ (hh.newBase R.store) (Nat.le_succ _) rfl ?_ rfl
        unfold endC at h1
        rw [if_pos ⟨w1, w2⟩] at h1
        rw [if_neg fun z => w2 z.2]
        exact h1
    · rw [if_neg w1]
      exact store (.inr w1)
  · exact h.elim
theorem w_Session_tables : ∀ ds μ Q QX, μ.wf → objBs μ.next ds = true → sp_Session_tables ds μ Q QX → ds.length = 1 ∧ wpS c_Session_tables (startE N_Session_tables ds) μ (outs μ.next Q QX) := by
  intro ds μ Q QX hw ho h
  unfold sp_Session_tables at h
  split at h
  · rename_i j
    obtain ⟨R, F, hh, hok, h1⟩ := h
    refine ⟨rfl, ?_⟩
    simp [startE, wpS, wpT, wpE, wpA, wpI, wpG, wpGs, wpOpt, outs, wipeE, ePar, c_Session_tables, N_Session_tables, fl_store hh.core.j]
    exact ⟨R.store, hh.core.a, hok.1, fin_same hw (tabsD_B _) h1⟩
  · exact h.elim
/-! ### undo -/
def placesA {α : Type} (n : Str) : Nat → List (Str × α) → List Nat
  | _, [] => []
  | i, t :: r => if t.1 = n then i :: placesA n (i + 1) r else placesA n (i + 1) r
theorem lastP_places {α : Type} (n : Str) : ∀ (l : List (Str × α)) (i : Nat), lastP n i l = (placesA n i l).getLast?
  | [], _ => rfl
  | t :: l, i => by
    unfold lastP placesA
    rw [lastP_places n l (i + 1)]
    by_cases e : t.1 = n
    · rw [if_pos e, if_pos e]
      cases placesA n (i + 1) l with
      | nil => rfl
      | cons a r =>
        rw [List.getLast?_cons_cons]
        cases h : (a :: r).getLast? with
        | none => simp at h
        | some x => rfl
    · rw [if_neg e, if_neg e]
      cases (placesA n (i + 1) l).getLast? <;> rfl
theorem places_lt {α : Type} (n : Str) : ∀ (l : List (Str × α)) (i k : Nat), k ∈ placesA n i l → i ≤ k ∧ k < i + l.length
  | [], _, _, h => by cases h
  | t :: l, i, k, h => by
    unfold placesA at h
    rw [List.length_cons]
    have step : k ∈ placesA n (i + 1) l → i ≤ k ∧ k < i + (l.length + 1) := fun m => by
      have := places_lt n l (i + 1) k m
      omega
    split at h
    · rcases List.mem_cons.mp h with rfl | m
      · omega
      · exact step m
    · exact step h
theorem loop_places {turn : D → Sto → (Option D → Sto → Prop) → Prop} {gd : Sto → Prop} {fin : List D → Sto → Prop} {μ : Sto} (n : Str) (hg : gd μ) : ∀ (l : List (Str × Nat × Store)) (i : Nat) (acc : List D), (∀ (i : Nat) t, t ∈ l → ∀ N : Option D → Sto → Prop, N (if t.1 = n then some (.int i) else none) μ → turn (.tup [.int i, savD t]) μ N) → acc.length + l.length ≤ sizeLine → fin (acc ++ (placesA n i l).map fun k : Nat => D.int k) μ → loopC turn gd fin (enumD i (l.map savD)) acc μ
  | [], i, acc, _, _, h => ⟨hg, by simpa [placesA] using h⟩
  | t :: l, i, acc, ht, hl, h => by
    rw [List.length_cons] at hl
    refine ⟨hg, ht i t (by simp) _ ?_⟩
    unfold placesA at h
    by_cases e : t.1 = n
    · rw [if_pos e] at h ⊢
      exact ⟨by omega, loop_places n hg l (i + 1) (acc ++ [.int i]) (fun i t m => ht i t (by simp [m])) (by rw [List.length_append, List.length_singleton]; omega) (by simpa using h)⟩
    · rw [if_neg e] at h ⊢
      exact loop_places n hg l (i + 1) acc (fun i t m => ht i t (by simp [m])) (by omega) h
end M
end

section
set_option Elab.async false
set_option linter.all false
set_option maxRecDepth 100000
set_option maxHeartbeats 4000000
set_option autoImplicit false
namespace M
open PySem PySem.Spec PyProof.Rows L2
open SX (S S_len S_cat)
theorem ixt_0 {x : D} {l : List D} {μ : Sto} {Q : Post} : ixD (.tup (x :: l)) (.int 0) μ Q = Q x μ := by simp [ixD, sq_tup, atI_zero]
theorem ixt_1 {x y : D} {l : List D} {μ : Sto} {Q : Post} : ixD (.tup (x :: y :: l)) (.int 1) μ Q = Q y μ := by simp [ixD, sq_tup, atI_one]
theorem ixl_last {x : D} {l : List D} {μ : Sto} {Q : Post} (h : l.getLast? = some x) : ixD (.lst l) (.int (-1)) μ Q = Q x μ := by simp [ixD, sq_lst, atI_neg1, h]
theorem ixo_nat {x : D} {l : List D} {μ : Sto} {Q : Post} {o k : Nat} (hc : μ.cell o = some (.lst l)) (h : l[k]? = some x) : ixD (.obj o) (.int k) μ Q = Q x μ := by simp [ixD, sq_obj hc, atI_nat', h]
theorem lastP_map {α β : Type} (n : Str) {f : Str × α → Str × β} (hf : ∀ t, (f t).1 = t.1) : ∀ {l : List (Str × α)} {i : Nat}, lastP n i (l.map f) = lastP n i l
  | [], _ => rfl
  | t :: l, i => by
    rw [List.map_cons]
    unfold lastP
    rw [lastP_map n hf, hf]
theorem w_Session__undo : ∀ ds μ Q QX, μ.wf → objBs μ.next ds = true → sp_Session__undo ds μ Q QX → ds.length = 2 ∧ wpS c_Session__undo (startE N_Session__undo ds) μ (outs μ.next Q QX) := by
  intro ds μ Q QX hw ho h
  unfold sp_Session__undo at h
  split at h
  · rename_i j n
    obtain ⟨R, F, hh, hok, h1⟩ := h
    refine ⟨rfl, ?_⟩
    have hj := hh.core.j
    have hc := hh.core.c
    have := sz1000
    have hl : R.saves.length ≤ 10 := by
      have := hok.2.2.2.1
      simpa [RS.core] using this
    have hlen : R.core.saves.length = R.saves.length := by simp [RS.core]
    simp [startE, wpS, wpT, wpE, wpA, wpI, wpG, wpGs, wpOpt, outs, wipeE, ePar, c_Session__undo, N_Session__undo, fl_saves hj, hc]
    refine loop_places n hc R.saves 0 [] (fun i t m N hN => ?_) (by rw [List.length_nil]; omega) ?_
    · simp [startE, wpS, wpT, wpE, wpA, wpI, wpG, wpGs, wpOpt, outs, wipeE, ePar, sq_tup, savD, ixt_0, cmp_eq_str]
      by_cases e : t.1 = n <;> simpa [e] using hN
    · rw [List.nil_append]
      simp [startE, wpS, wpT, wpE, wpA, wpI, wpG, wpGs, wpOpt, outs, wipeE, ePar, r1_Session__undo, truD, sq_lst, two_le]
      unfold undoC at h1
      rw [show R.core.saves = R.saves.map fun t => (t.1, t.2.2) from rfl, lastP_map (f := fun t : Str × Nat × Store => (t.1, t.2.2)) n (fun _ => rfl), lastP_places] at h1
      by_cases hp : placesA n 0 R.saves = []
      · rw [if_pos hp]
        rw [hp] at h1
        exact fin_core h1 hh .self (Nat.le_refl _)
      · rw [if_neg hp]
        obtain ⟨k, hk⟩ : ∃ k, (placesA n 0 R.saves).getLast? = some k := by
          cases h : (placesA n 0 R.saves).getLast? with
          | none => exact absurd (List.getLast?_eq_none_iff.mp h) hp
          | some k => exact ⟨k, rfl⟩
        have hkl : k < R.saves.length := by
          have := (places_lt n R.saves 0 k (List.mem_of_getLast? hk)).2
          omega
        obtain ⟨t, ht⟩ : ∃ t, R.saves[k]? = some t := ⟨_, List.getElem?_eq_getElem hkl⟩
        rw [hk] at h1
        dsimp only at h1
        rw [List.getElem?_map, ht] at h1
        have hlast : ((placesA n 0 R.saves).map fun k : Nat => D.int k).getLast? = some (.int k) := by rw [List.getLast?_map, hk]; rfl
        have hsav : (R.saves.map savD)[k]? = some (savD t) := by rw [List.getElem?_map, ht]; rfl
        have hx := hh.core.s t (List.mem_of_getElem? ht)
        simp [startE, wpS, wpT, wpE, wpA, wpI, wpG, wpGs, wpOpt, outs, wipeE, ePar, r2_Session__undo, fl_saves hj, ixl_last hlast, ixo_nat hc hsav, savD, ixt_1, dct_ap hx]
        rw [se_store (new_j hh _)]
        have hh2 := hh.newStore t.2.2
        generalize e2 : (μ.new (Cell.dct (stoK t.2.2))).put j _ = μ2 at hh2 ⊢
        have hn2 : μ.next ≤ μ2.next := by rw [← e2]; exact Nat.le_succ _
        have hj2 := hh2.core.j
        have hc2 := hh2.core.c
        simp [startE, wpS, wpT, wpE, wpA, wpI, wpG, wpGs, wpOpt, outs, wipeE, ePar, r3_Session__undo, fl_saves hj2, ixl_last hlast, binD, eSlM, l_obj hc2]
        rw [show cutD (R.saves.map savD) none (some ((k : Int) + 1)) = (R.saves.take (k + 1)).map savD from (cut_to _ (k + 1)).trans (List.map_take ..).symm]
        rw [se_saves (new_j hh2 _)]
        have hh3 := hh2.newSaves (k + 1)
        dsimp only at hh3
        generalize e3 : (μ2.new (Cell.lst _)).put j _ = μ3 at hh3 ⊢
        have hn3 : μ.next ≤ μ3.next := by rw [← e3]; exact Nat.le_succ_of_le hn2
        have hj3 := hh3.core.j
        simp [startE, wpS, wpT, wpE, wpA, wpI, wpG, wpGs, wpOpt, outs, wipeE, ePar, r4_Session__undo, se_state hj3, r5_Session__undo, two_le]
        refine fin_core h1 (hh3.setMode "open") ⟨?_, rfl, rfl⟩ hn3
        simp [RS.core, List.map_take]
  · exact h.elim
end M
end

section
set_option Elab.async false
set_option linter.all false
set_option maxRecDepth 100000
set_option maxHeartbeats 4000000
set_option autoImplicit false
namespace M
open PySem PySem.Spec PyProof.Rows L2
open SX (S S_len S_cat)
section
variable {μ : Sto} {j : Nat} {R : RS} {F : Cells} {Q : Post} {E : XPost}
theorem postC_fin {r : CS × Bool × Ans} (h : postC j R F μ r Q) : postC j R F μ r (finP μ.next Q) := fun _ _ hh hr hn => fin_core h hh hr hn
theorem met_s {m : Str} {sp : Spec} (h : μ.cell j = some (insS R)) (hm : ([("_store", .obj R.a), ("_base", .obj R.b), ("_state", .str R.mode), ("_savepoints", .obj R.c), ("_statements", .obj R.d), ("_portals", .obj R.e)] : List (Str × D)).lookup m = none) : metOf m [(11, sp)] (.obj j) μ = some sp := by
  unfold metOf insD
  simp only [h, insS]
  rw [hm]
  rfl
theorem HW.putStore (h : HW μ (coreC j R ++ F)) (s : Store) : HW (μ.put R.a (.dct (stoK s))) (coreC j { R with store := s } ++ F) := HW.put (A := [_]) (c' := .dct (stoK s)) h (stoK_B _ s)
end
theorem w_Session__do : ∀ ds μ Q QX, μ.wf → objBs μ.next ds = true → sp_Session__do ds μ Q QX → ds.length = 2 ∧ wpS c_Session__do (startE N_Session__do ds) μ (outs μ.next Q QX) := by
  intro ds μ Q QX hw ho h
  unfold sp_Session__do at h
  split at h
  · rename_i j p
    obtain ⟨R, F, st, vs, hh, hok, rfl, hst, h1⟩ := h
    refine ⟨rfl, ?_⟩
    have hj := hh.core.j
    have m1 := met_s (sp := sp_Session__begin) (m := "_begin") hj rfl
    have m2 := met_s (sp := sp_Session__save) (m := "_save") hj rfl
    have m3 := met_s (sp := sp_Session__undo) (m := "_undo") hj rfl
    have m4 := met_s (sp := sp_Session__end) (m := "_end") hj rfl
    cases st with
    | bare w =>
      have hend : (w = "commit" ∨ w = "rollback") → (if R.mode = "none" then finP μ.next Q (.tup [.str "wrong", .str "no transaction"]) μ else sp_Session__end [.obj j, .str w] μ (finP μ.next Q) (fun x μ' => finX μ.next QX x μ')) := fun hz => by
        unfold doC at h1
        dsimp only at h1
        rw [if_neg (by rcases hz with z | z <;> rw [z] <;> decide)] at h1
        by_cases e : R.core.mode = "none"
        · rw [if_pos e] at h1
          rw [if_pos (show R.mode = "none" from e)]
          exact fin_core h1 hh .self (Nat.le_refl _)
        · rw [if_neg e] at h1
          rw [if_neg (show ¬ R.mode = "none" from e)]
          exact ⟨R, F, hh, hok, postC_fin h1⟩
      rcases hst with rfl | rfl | rfl
      · simp (decide := true) [startE, wpS, wpT, wpE, wpA, wpI, wpG, wpGs, wpOpt, outs, wipeE, ePar, c_Session__do, N_Session__do, fillL, ixl_0, cmpD, deq_str, drf, lm_str, eqOk_str, m1, eqOk, eqN]
        exact ⟨R, F, hh, hok, postC_fin h1⟩
      · simp (decide := true) [startE, wpS, wpT, wpE, wpA, wpI, wpG, wpGs, wpOpt, outs, wipeE, ePar, c_Session__do, N_Session__do, fillL, ixl_0, cmpD, deq_str, drf, lm_str, eqOk_str, m4, eqOk, eqN, fl_state hj, two_le]
        exact hend (.inl rfl)
      · simp (decide := true) [startE, wpS, wpT, wpE, wpA, wpI, wpG, wpGs, wpOpt, outs, wipeE, ePar, c_Session__do, N_Session__do, fillL, ixl_0, cmpD, deq_str, drf, lm_str, eqOk_str, m4, eqOk, eqN, fl_state hj, two_le]
        exact hend (.inr rfl)
    | on w n ts =>
      have hdo : ¬ w = "save" → ¬ w = "undo" → doOk w (ts.map (fillA vs)) → sp_do [.obj R.a, .lst (.str w :: .str n :: ts.map (keyD ∘ fillA vs))] μ (finP μ.next Q) (fun x μ' => finX μ.next QX x μ') := fun e1 e2 hz => by
        unfold doC at h1
        dsimp only at h1
        rw [if_neg e1, if_neg e2] at h1
        refine ⟨R.store, w, n, ts.map (fillA vs), hh.core.a, hok.1, by rw [← List.map_map], hz, ?_⟩
        exact fin_core h1 (hh.putStore _) ⟨rfl, rfl, rfl⟩ (Nat.le_refl _)
      have hlen : (ts.map (fillA vs)).length = ts.length := List.length_map ..
      have two : ts.length = 0 → ts.map (fillA vs) = [] := fun z => by rw [List.length_eq_zero_iff.mp z]; rfl
      obtain ⟨_, hf⟩ := hst
      rcases hf with ⟨rfl | rfl | rfl | rfl | rfl | rfl, hz⟩ | ⟨rfl | rfl, hz⟩ | ⟨rfl | rfl, hz⟩
      all_goals simp (decide := true) [startE, wpS, wpT, wpE, wpA, wpI, wpG, wpGs, wpOpt, outs, wipeE, ePar, c_Session__do, N_Session__do, fillL, ixl_0, ixl_1, cmpD, deq_str, drf, lm_str, eqOk_str, eqOk, eqN, fl_state hj, fl_store hj, two_le, m2, m3]
      · exact hdo (by decide) (by decide) (.inl ⟨.inl rfl, by omega⟩)
      · exact hdo (by decide) (by decide) (.inl ⟨.inr rfl, by omega⟩)
      · exact hdo (by decide) (by decide) (.inr (.inr (.inr (.inl ⟨rfl, by omega⟩))))
      · have h1 : postC j R F μ (if R.core.mode = "none" then (R.core, false, .wrong "no transaction") else saveC R.core n) Q := h1
        by_cases e : R.core.mode = "none"
        · rw [if_pos e] at h1
          rw [if_pos (show R.mode = "none" from e)]
          exact fin_core h1 hh .self (Nat.le_refl _)
        · rw [if_neg e] at h1
          rw [if_neg (show ¬ R.mode = "none" from e)]
          exact ⟨R, F, hh, hok, postC_fin h1⟩
      · have h1 : postC j R F μ (if R.core.mode = "none" then (R.core, false, .wrong "no transaction") else undoC R.core n) Q := h1
        by_cases e : R.core.mode = "none"
        · rw [if_pos e] at h1
          rw [if_pos (show R.mode = "none" from e)]
          exact fin_core h1 hh .self (Nat.le_refl _)
        · rw [if_neg e] at h1
          rw [if_neg (show ¬ R.mode = "none" from e)]
          exact ⟨R, F, hh, hok, postC_fin h1⟩
      · exact hdo (by decide) (by decide) (.inr (.inr (.inr (.inr (.inr ⟨rfl, .inl (by omega)⟩)))))
      · exact hdo (by decide) (by decide) (.inr (.inr (.inl ⟨rfl, by omega⟩)))
      · exact hdo (by decide) (by decide) (.inr (.inr (.inr (.inr (.inl ⟨rfl, by omega⟩)))))
      · exact hdo (by decide) (by decide) (.inr (.inl ⟨rfl, by omega⟩))
      · exact hdo (by decide) (by decide) (.inr (.inr (.inr (.inr (.inr ⟨rfl, .inr (by omega)⟩)))))
  · exact h.elim
end M
end

section
set_option Elab.async false
set_option linter.all false
set_option maxRecDepth 100000
set_option maxHeartbeats 4000000
set_option autoImplicit false
namespace M
open PySem PySem.Spec PyProof.Rows L2
open SX (S S_len S_cat)
/-! ### what reading gives -/
def decT (d : D) : Option Tm := match d with
  | .int i => some (.num i)
  | .tup [.str k, .str t] => some (.txt t.cps.toList)
  | .tup [.str k, .int n] => some (.par n)
  | _ => none
theorem readA_eq (l : List Nat) : readA l = match readS l with
    | some (.str w :: .str n :: ds) => some (.on w n (ds.filterMap decT))
    | some [.str w] => some (.bare w)
    | _ => none := rfl
theorem decT_tm (t : Tm) : decT (tmD t) = some t := by cases t <;> rfl
theorem term_tm {l : List Nat} (h : isNonD (termOf l) = false) : ∃ t, termOf l = tmD t ∧ ∀ n, parA t = some n → 1 ≤ n ∧ n ≤ 4 := by
  rcases termOf_cases l with e | ⟨x, e⟩ | ⟨n, h1, h2, e⟩ | ⟨i, e⟩
  · rw [e] at h
    cases h
  · exact ⟨.txt x, e, fun n z => by cases z⟩
  · exact ⟨.par n, e, fun m z => by cases z; exact ⟨h1, h2⟩⟩
  · exact ⟨.num i, e, fun n z => by cases z⟩
theorem terms_tm : ∀ {r : List (List Nat)}, (r.map termOf).any isNonD = false → ∃ ts : List Tm, r.map termOf = ts.map tmD ∧ ts.length = r.length ∧ ∀ t ∈ ts, ∀ n, parA t = some n → 1 ≤ n ∧ n ≤ 4
  | [], _ => ⟨[], rfl, rfl, fun t m => by cases m⟩
  | l :: r, h => by
    rw [List.map_cons, List.any_cons, Bool.or_eq_false_iff] at h
    obtain ⟨t, e, ht⟩ := term_tm h.1
    obtain ⟨ts, e2, hl, hts⟩ := terms_tm h.2
    refine ⟨t :: ts, by rw [List.map_cons, List.map_cons, e, e2], by rw [List.length_cons, List.length_cons, hl], fun x m => ?_⟩
    rcases List.mem_cons.mp m with rfl | m
    · exact ht
    · exact hts x m
theorem form_at {l : List Nat} {n : Nat} (h : formOk l n = true) : (S l = "begin" ∨ S l = "commit" ∨ S l = "rollback") ∧ n = 0 ∨ (S l = "create" ∨ S l = "drop" ∨ S l = "total" ∨ S l = "save" ∨ S l = "undo" ∨ S l = "scan") ∧ n = 1 ∨ (S l = "delete" ∨ S l = "get") ∧ n = 2 ∨ (S l = "put" ∨ S l = "scan") ∧ n = 3 := by
  unfold formOk at h
  split at h
  · rename_i ds e
    have hm : (S l, D.tup ds) ∈ tbl_FORMS := PySem.mem_of_lookup e
    generalize S l = z at hm
    simp only [tbl_FORMS, List.mem_cons, List.not_mem_nil, or_false, Prod.mk.injEq, D.tup.injEq] at hm
    rcases hm with ⟨rfl, rfl⟩ | ⟨rfl, rfl⟩ | ⟨rfl, rfl⟩ | ⟨rfl, rfl⟩ | ⟨rfl, rfl⟩ | ⟨rfl, rfl⟩ | ⟨rfl, rfl⟩ | ⟨rfl, rfl⟩ | ⟨rfl, rfl⟩ | ⟨rfl, rfl⟩ | ⟨rfl, rfl⟩ | ⟨rfl, rfl⟩ <;> simp at h <;> simp (decide := true) <;> omega
  · cases h
theorem read_stm {l : List Nat} {ds : List D} (h : readS l = some ds) : ∃ st, readA l = some st ∧ ds = stmL st ∧ stmOkA st := by
  have hr := readA_eq l
  rw [h] at hr
  unfold readS at h
  split at h
  · obtain ⟨ps, hp, hs⟩ := Option.bind_eq_some_iff.mp h
    unfold stmtOf at hs
    split at hs
    · cases hs
    · rename_i hh
      split at hs
      · cases hs
      · rename_i hn
        dsimp only at hs
        split at hs
        · cases hs
          cases ps with
          | nil => exact absurd rfl hh
          | cons w ps => cases ps with
            | nil =>
              refine ⟨.bare (S w), hr, rfl, ?_⟩
              have hf : formOk w 0 = true := by simpa [headOk] using hh
              rcases form_at hf with ⟨z, _⟩ | ⟨_, z⟩ | ⟨_, z⟩ | ⟨_, z⟩
              · exact z
              · cases z
              · cases z
              · cases z
            | cons n r =>
              obtain ⟨ts, e1, e2, e3⟩ := terms_tm (r := r) (by simpa using hn)
              have e4 : ((w :: n :: r).take 2).map strD ++ ((w :: n :: r).drop 2).map termOf = .str (S w) :: .str (S n) :: ts.map tmD := by
                show strD w :: strD n :: r.map termOf = _
                rw [e1]
                rfl
              rw [e4] at hr ⊢
              have e5 : (ts.map tmD).filterMap decT = ts := by
                rw [List.filterMap_map]
                have : (decT ∘ tmD) = some := funext decT_tm
                rw [this, List.filterMap_some]
              dsimp only at hr
              rw [e5] at hr
              refine ⟨.on (S w) (S n) ts, hr, rfl, e3, ?_⟩
              have hf : formOk w (r.length + 1) = true := by
                have : (formOk w (r.length + 1) && isName n) = true := by simpa [headOk] using hh
                exact (Bool.and_eq_true _ _ ▸ this).1
              rw [e2]
              rcases form_at hf with ⟨_, z⟩ | ⟨z, y⟩ | ⟨z, y⟩ | ⟨z, y⟩
              · omega
              · exact .inl ⟨z, by omega⟩
              · exact .inr (.inl ⟨z, by omega⟩)
              · exact .inr (.inr ⟨z, by omega⟩)
        · cases hs
  · cases h
theorem read_none {l : List Nat} (h : readS l = none) : readA l = none := by rw [readA_eq, h]
theorem parN_tm (t : Tm) : parN (tmD t) = parA t := by
  cases t with
  | num i => rfl
  | txt l => rfl
  | par n =>
    show (if Str.ofString "parameter" = Str.ofString "parameter" then some n else none) = some n
    rw [if_pos rfl]
theorem pars_stm (st : Stm) : parNs (stmL st) = parsS st := by
  cases st with
  | bare w => rfl
  | on w n ts =>
    show (ts.map tmD).filterMap parN = ts.filterMap parA
    rw [List.filterMap_map]
    congr 1
    exact funext parN_tm
theorem okItem_tm (t : Tm) : okItem (tmD t) = true := by
  cases t with
  | num i => rfl
  | txt l =>
    show decide (Str.ofString "text" ≠ Str.ofString "parameter") = true
    decide +kernel
  | par n => rfl
theorem okItem_stm (st : Stm) : (stmL st).all okItem = true := by
  cases st with
  | bare w => rfl
  | on w n ts =>
    show (ts.map tmD).all okItem = true
    rw [List.all_map, List.all_eq_true]
    exact fun t _ => okItem_tm t
theorem stm_len {st : Stm} (h : stmOkA st) : (stmL st).length ≤ 4 := by
  cases st with
  | bare w => exact (by decide : (1 : Nat) ≤ 4)
  | on w n ts =>
    show ((ts.map tmD).length + 1 + 1) ≤ 4
    rw [List.length_map]
    rcases h.2 with ⟨_, z⟩ | ⟨_, z⟩ | ⟨_, z⟩ <;> omega
theorem pars_ap {st : Stm} {μ : Sto} {Q : Post} {E : XPost} (hst : stmOkA st) (h : Q (.int (needS st)) μ) : sp_parameters [stmD st] μ Q E :=
  ⟨stmL st, rfl, by have := stm_len hst; have := sz1000; omega, okItem_stm st, by rw [pars_stm]; exact h⟩
end M
end

section
set_option Elab.async false
set_option linter.all false
set_option maxRecDepth 100000
set_option maxHeartbeats 4000000
set_option autoImplicit false
namespace M
open PySem PySem.Spec PyProof.Rows L2
open SX (S S_len S_cat)
section
variable {μ μ' : Sto} {j : Nat} {R R' : RS} {F : Cells} {Q : Post} {E : XPost}
theorem HW.toC (h : HW μ (allC j R ++ F)) : HW μ (coreC j R ++ (portsC R ++ F)) := by
  rw [← List.append_assoc]
  exact h
theorem HW.ofC (h : HW μ (coreC j R ++ (portsC R ++ F))) : HW μ (allC j R ++ F) := by
  unfold allC
  rw [List.append_assoc]
  exact h
theorem fin_S {r : SS × Rp} (h : postS j F μ r Q) (hh : HW μ' (allC j R' ++ F)) (hr : R'.abs = r.1) (hn : μ.next ≤ μ'.next) : finP μ.next Q (repD r.2) μ' := fin_all hh.wf hn (repD_B _ _) (h μ' R' hh hr hn)
theorem postS_fin {r : SS × Rp} (h : postS j F μ r Q) : postS j F μ r (finP μ.next Q) := fun _ _ hh hr hn => fin_S h hh hr hn
theorem HW.putStms (h : HW μ (allC j R ++ F)) (l : List (Str × Stm)) : HW (μ.put R.d (.dct (mapK stmD l))) (allC j { R with stms := l } ++ F) := HW.put (A := [_, _, _, _]) (c' := .dct (mapK stmD l)) h (mapK_B fun x => stmD_B _ x)
end
theorem w_Session__prepare : ∀ ds μ Q QX, μ.wf → objBs μ.next ds = true → sp_Session__prepare ds μ Q QX → ds.length = 3 ∧ wpS c_Session__prepare (startE N_Session__prepare ds) μ (outs μ.next Q QX) := by
  intro ds μ Q QX hw ho h
  unfold sp_Session__prepare at h
  split at h
  · rename_i j n z
    obtain ⟨R, F, hh, hok, hz, h1⟩ := h
    refine ⟨rfl, ?_⟩
    have hj := hh.toC.core.j
    have hd := hh.toC.core.d
    have := sz1000
    have hl : R.stms.length ≤ 8 := hok.sl
    have h1 : postS j F μ (if (getA R.stms n).isSome = true then (R.abs, .wrong "taken") else if R.stms.length = 8 then (R.abs, .wrong "crowded")
      else match readA z.cps.toList with
        | none => (R.abs, .wrong "unreadable")
        | some st => ({ R.abs with stms := putA R.stms n st }, .prepared (needS st))) Q := h1
    simp [startE, wpS, wpT, wpE, wpA, wpI, wpG, wpGs, wpOpt, outs, wipeE, ePar, c_Session__prepare, N_Session__prepare, fl_stms hj, cmp_in hd, lenD_dct hd, cmp_eq_int, mapK_get, mapK_len, two_le]
    by_cases e1 : (getA R.stms n).isSome = true
    · rw [if_pos e1] at h1
      rw [if_pos e1]
      exact fin_S h1 hh rfl (Nat.le_refl _)
    · rw [if_neg e1] at h1
      rw [if_neg e1]
      by_cases e2 : R.stms.length = 8
      · rw [if_pos e2] at h1
        rw [if_pos (by omega)]
        exact fin_S h1 hh rfl (Nat.le_refl _)
      · rw [if_neg e2] at h1
        rw [if_neg (by omega)]
        refine ⟨by have := sizeLine_eq; omega, ?_⟩
        cases hr : readS z.cps.toList with
        | none =>
          rw [read_none hr] at h1
          exact fin_S h1 hh rfl (Nat.le_refl _)
        | some ds =>
          obtain ⟨st, ea, rfl, hst⟩ := read_stm hr
          rw [ea] at h1
          simp [startE, wpS, wpT, wpE, wpA, wpI, wpG, wpGs, wpOpt, outs, wipeE, ePar, optT, cmpD, isNonD, fl_stms hj, hd, keyOf, mapK_len]
          refine ⟨by omega, ?_⟩
          refine pars_ap hst ?_
          have e3 : putD (mapK stmD R.stms) (.inr n) (.tup (stmL st)) = mapK stmD (putA R.stms n st) := mapK_put stmD R.stms n st
          rw [e3]
          exact fin_S h1 (hh.putStms _) rfl (Nat.le_refl _)
  · exact h.elim
end M
end

section
set_option Elab.async false
set_option linter.all false
set_option maxRecDepth 100000
set_option maxHeartbeats 4000000
set_option autoImplicit false
namespace M
open PySem PySem.Spec PyProof.Rows L2
open SX (S S_len S_cat)
def abP (t : Str × Nat × Port) : Str × Port := (t.1, t.2.2)
theorem getA_map {α β : Type} {f : Str × α → Str × β} {g : α → β} (hf : ∀ t, f t = (t.1, g t.2)) (k : Str) : ∀ l : List (Str × α), getA (l.map f) k = (getA l k).map g
  | [] => rfl
  | t :: l => by
    unfold getA
    rw [List.map_cons, List.find?_cons, List.find?_cons, hf]
    dsimp only
    cases h : decide (t.1 = k)
    · exact getA_map hf k l
    · rfl
theorem ports_get (R : RS) (n : Str) : getA R.abs.ports n = (getA R.ports n).map (·.2) := getA_map (f := fun t : Str × Nat × Port => (t.1, t.2.2)) (fun _ => rfl) n R.ports
section
variable {μ μ' : Sto} {j : Nat} {R R' : RS} {F : Cells} {Q : Post} {E : XPost}
theorem rowsD_B (n : Nat) (o : Option (List (List Key))) : objB n (rowsD o) = true := by
  cases o with
  | none => rfl
  | some l => exact rsD_B n l
theorem portC_B (n : Nat) (p : Port) : cellB n (portC p) = true := by
  show (objB n (stmD p.st) && (objB n (tupK p.vals) && (objB n (rowsD p.rows) && (true && true)))) = true
  rw [stmD_B, tupK_B, rowsD_B]
  rfl
def obP (t : Nat × Port) : D := .obj t.1
theorem obP_B {n : Nat} {l : List (Str × Nat × Port)} (h : ∀ t ∈ l, t.2.1 < n) : cellB n (.dct (mapK obP l)) = true := by
  show objBs n ((mapK obP l).map Prod.snd) = true
  unfold mapK
  rw [List.map_map]
  exact objBs_map fun t m => decide_eq_true (h t m)
theorem HW.plt (h : HW μ (allC j R ++ F)) {t : Str × Nat × Port} (m : t ∈ R.ports) : t.2.1 < μ.next :=
  h.lt (c := portC t.2.2) (List.mem_append_left _ (List.mem_append_right _ (List.mem_map.mpr ⟨t, m, rfl⟩)))
theorem HW.pat (h : HW μ (allC j R ++ F)) {t : Str × Nat × Port} (m : t ∈ R.ports) : μ.cell t.2.1 = some (portC t.2.2) :=
  h.get (c := portC t.2.2) (List.mem_append_left _ (List.mem_append_right _ (List.mem_map.mpr ⟨t, m, rfl⟩)))
theorem HW.addPort (h : HW μ (allC j R ++ F)) (n : Str) (p : Port) : HW (((μ.new (.ins 10 [])).put μ.next (portC p)).put R.e (.dct (mapK obP (R.ports ++ [(n, μ.next, p)])))) (allC j { R with ports := R.ports ++ [(n, μ.next, p)] } ++ F) := by
  have h1 := HW.new (A := allC j R) (c := .ins 10 []) h rfl
  have h2 := HW.put (A := allC j R) (c' := portC p) h1 (portC_B _ p)
  have h3 := HW.put (A := [_, _, _, _, _]) (c' := .dct (mapK obP (R.ports ++ [(n, μ.next, p)]))) h2 (obP_B fun t m => by
    rcases List.mem_append.mp m with m | m
    · exact Nat.lt_succ_of_lt (h.plt m)
    · rw [List.mem_singleton] at m
      subst m
      exact Nat.lt_succ_self _)
  have e : allC j { R with ports := R.ports ++ [(n, μ.next, p)] } ++ F = [(j, insS R), (R.a, .dct (stoK R.store)), (R.b, .dct (stoK R.base)), (R.c, .lst (R.saves.map savD)), (R.d, .dct (mapK stmD R.stms))] ++ (R.e, .dct (mapK obP (R.ports ++ [(n, μ.next, p)]))) :: (savesC R ++ portsC R ++ (μ.next, portC p) :: F) := by
    simp [allC, coreC, savesC, portsC, insS]
    rfl
  rw [e]
  exact h3
end
theorem one_le : 1 ≤ sizeLine := by rw [sizeLine_eq]; omega
theorem mid_at {μ : Sto} {k : Nat} {c c' : Cell} (hk : k < μ.next) : ((μ.new c).put μ.next c').cell k = μ.cell k := by
  rw [Sto.put_ne (Nat.ne_of_lt hk), Sto.new_ne (Nat.ne_of_lt hk)]
theorem w_Session__bind : ∀ ds μ Q QX, μ.wf → objBs μ.next ds = true → sp_Session__bind ds μ Q QX → ds.length = 4 ∧ wpS c_Session__bind (startE N_Session__bind ds) μ (outs μ.next Q QX) := by
  intro ds μ Q QX hw ho h
  unfold sp_Session__bind at h
  split at h
  · rename_i j p n v
    obtain ⟨R, F, vs, hh, hok, rfl, hv, h1⟩ := h
    refine ⟨rfl, ?_⟩
    have hj := hh.toC.core.j
    have hd := hh.toC.core.d
    have he : μ.cell R.e = some (.dct (mapK obP R.ports)) := hh.toC.core.e
    have := sz1000
    have hl : R.ports.length ≤ 8 := by
      have := hok.pl
      simpa [RS.abs] using this
    have el : R.abs.ports.length = R.ports.length := by simp [RS.abs]
    unfold bindA at h1
    rw [ports_get, some_map, el] at h1
    simp [startE, wpS, wpT, wpE, wpA, wpI, wpG, wpGs, wpOpt, outs, wipeE, ePar, c_Session__bind, N_Session__bind, r1_Session__bind, r2_Session__bind, r3_Session__bind, fl_ports hj, fl_stms hj, cmp_in he, cmp_nin hd, lenD_dct he, cmp_eq_int, mapK_get, mapK_len, two_le]
    by_cases e1 : (getA R.ports p).isSome = true
    · rw [if_pos e1] at h1
      rw [if_pos e1]
      exact fin_S h1 hh rfl (Nat.le_refl _)
    · rw [if_neg e1] at h1
      rw [if_neg e1]
      by_cases e2 : R.ports.length = 8
      · rw [if_pos e2] at h1
        rw [if_pos (by omega)]
        exact fin_S h1 hh rfl (Nat.le_refl _)
      · rw [if_neg e2] at h1
        rw [if_neg (by omega)]
        have h1 : postS j F μ (match getA R.stms n with
          | none => (R.abs, .wrong "no statement")
          | some st => if (vs.length : Int) ≠ needS st then (R.abs, .wrong "values") else ({ R.abs with ports := putA R.abs.ports p ⟨st, vs, none, false⟩ }, .bound)) Q := h1
        cases e3 : getA R.stms n with
        | none =>
          rw [e3] at h1
          rw [if_pos rfl]
          exact fin_S h1 hh rfl (Nat.le_refl _)
        | some st =>
          rw [e3] at h1
          dsimp only at h1
          rw [if_neg (by simp)]
          have hst : stmOkA st := hok.st _ (getA_mem e3)
          have hvd : valD (mapK stmD R.stms) (.inr n) = some (stmD st) := by rw [mapK_get, e3]; rfl
          simp [startE, wpS, wpT, wpE, wpA, wpI, wpG, wpGs, wpOpt, outs, wipeE, ePar, spLen, tupK, sq_tup, fl_stms hj, ixd_dct hd hvd]
          refine pars_ap hst ?_
          simp [startE, wpS, wpT, wpE, wpA, wpI, wpG, wpGs, wpOpt, outs, wipeE, ePar, cmpD, drf, lm_int, eqOk_int, deq_int]
          by_cases e4 : (vs.length : Int) = needS st
          · rw [if_neg (by simpa using e4)] at h1
            rw [if_pos e4]
            simp [startE, wpS, wpT, wpE, wpA, wpI, wpG, wpGs, wpOpt, outs, wipeE, ePar, r4_Session__bind, fl_stms hj, ixd_dct hd hvd, eNew, sp_Portal___init__, Sto.new_same]
            change eFld [11] _ _ [.obj j] ((μ.new (.ins 10 [])).put μ.next (portC ⟨st, vs, none, false⟩)) _ _
            have l := hh.toC.clt
            have hj2 : ((μ.new (.ins 10 [])).put μ.next (portC ⟨st, vs, none, false⟩)).cell j = some (insS R) := (mid_at l.j).trans hj
            have he2 : ((μ.new (.ins 10 [])).put μ.next (portC ⟨st, vs, none, false⟩)).cell R.e = some (.dct (mapK obP R.ports)) := (mid_at l.e).trans he
            rw [fl_ports hj2]
            simp [startE, wpS, wpT, wpE, wpA, wpI, wpG, wpGs, wpOpt, outs, wipeE, ePar, he2, keyOf, mapK_len]
            refine ⟨by omega, ?_⟩
            have e5 : putD (mapK obP R.ports) (.inr p) (.obj μ.next) = mapK obP (R.ports ++ [(p, μ.next, ⟨st, vs, none, false⟩)]) := by
              rw [← putA_new (l := R.ports) (k := p) (v := (μ.next, ⟨st, vs, none, false⟩)) (by simpa using e1)]
              exact mapK_put obP R.ports p (μ.next, ⟨st, vs, none, false⟩)
            rw [e5]
            simp [startE, wpS, wpT, wpE, wpA, wpI, wpG, wpGs, wpOpt, outs, wipeE, ePar, r5_Session__bind, one_le]
            refine fin_S h1 (hh.addPort p ⟨st, vs, none, false⟩) ?_ (Nat.le_succ _)
            have e6 : (getA R.abs.ports p).isSome = false := by
              rw [ports_get, some_map]
              simpa using e1
            rw [putA_new e6]
            simp [RS.abs, RS.core]
          · rw [if_pos (by simpa using e4)] at h1
            rw [if_neg e4]
            exact fin_S h1 hh rfl (Nat.le_refl _)
  · exact h.elim
end M
end

section
set_option Elab.async false
set_option linter.all false
set_option maxRecDepth 100000
set_option maxHeartbeats 4000000
set_option autoImplicit false
namespace M
open PySem PySem.Spec PyProof.Rows L2
open SX (S S_len S_cat)
section
variable {μ μ' : Sto} {j x : Nat} {R R' : RS} {F : Cells} {Q : Post} {E : XPost} {δ : Env} {O : Outs} {p : Port}
theorem fp_parts (h : μ.cell x = some (portC p)) : eFld [10] "parts" δ [.obj x] μ Q E = Q (stmD p.st) μ := fl_gen h rfl
theorem fp_given (h : μ.cell x = some (portC p)) : eFld [10] "given" δ [.obj x] μ Q E = Q (tupK p.vals) μ := fl_gen h rfl
theorem fp_rows (h : μ.cell x = some (portC p)) : eFld [10] "rows" δ [.obj x] μ Q E = Q (rowsD p.rows) μ := fl_gen h rfl
theorem fp_done (h : μ.cell x = some (portC p)) : eFld [10] "is_done" δ [.obj x] μ Q E = Q (.bl p.done) μ := fl_gen h rfl
theorem sp_rows {l : List (List Key)} (h : μ.cell x = some (portC p)) : eSet [10] "rows" δ [rsD l, .obj x] μ O = O.nx δ (μ.put x (portC { p with rows := some l })) := by simp (decide := true) [eSet, setD, insD, h, portC, setF, rowsD]
theorem sp_done {b : Bool} (h : μ.cell x = some (portC p)) : eSet [10] "is_done" δ [.bl b, .obj x] μ O = O.nx δ (μ.put x (portC { p with done := b })) := by simp (decide := true) [eSet, setD, insD, h, portC, setF]
def portsL (l : List (Str × Nat × Port)) : Cells := l.map fun t => (t.2.1, portC t.2.2)
def updP (l : List (Str × Nat × Port)) (n : Str) (p : Port) : List (Str × Nat × Port) := l.map fun t => if t.1 = n then (t.1, t.2.1, p) else t
theorem updP_no {l : List (Str × Nat × Port)} {n : Str} {p : Port} (h : n ∉ l.map (·.1)) : updP l n p = l := by
  unfold updP
  induction l with
  | nil => rfl
  | cons t l ih =>
    rw [List.map_cons, List.mem_cons] at h
    rw [List.map_cons, if_neg fun e => h (.inl e.symm), ih fun m => h (.inr m)]
theorem split_at {n : Str} {v : Nat × Port} {p : Port} : ∀ {l : List (Str × Nat × Port)}, getA l n = some v → (l.map (·.1)).Nodup → ∃ l1 l2, l = l1 ++ (n, v) :: l2 ∧ updP l n p = l1 ++ (n, v.1, p) :: l2
  | [], h, _ => by cases h
  | t :: l, h, hn => by
    rw [List.map_cons, List.nodup_cons] at hn
    unfold getA at h
    rw [List.find?_cons] at h
    by_cases e : t.1 = n
    · rw [decide_eq_true e] at h
      cases h
      refine ⟨[], l, by rw [← e]; rfl, ?_⟩
      show (if t.1 = n then (t.1, t.2.1, p) else t) :: updP l n p = _
      rw [if_pos e, updP_no (by rw [← e]; exact hn.1), e]
      rfl
    · rw [decide_eq_false e] at h
      obtain ⟨l1, l2, e1, e2⟩ := split_at (p := p) (l := l) h hn.2
      refine ⟨t :: l1, l2, by rw [e1]; rfl, ?_⟩
      show (if t.1 = n then (t.1, t.2.1, p) else t) :: updP l n p = _
      rw [if_neg e, e2]
      rfl
theorem HW.putP {l : List (Str × Nat × Port)} {n : Str} {C : Cells} {p' : Port} (h : HW μ (C ++ (portsL l ++ F))) (hg : getA l n = some (x, p)) (hn : (l.map (·.1)).Nodup) : HW (μ.put x (portC p')) (C ++ (portsL (updP l n p') ++ F)) := by
  obtain ⟨l1, l2, e1, e2⟩ := split_at (p := p') hg hn
  rw [e2]
  rw [e1] at h
  have e3 : ∀ q, C ++ (portsL (l1 ++ (n, x, q) :: l2) ++ F) = (C ++ portsL l1) ++ (x, portC q) :: (portsL l2 ++ F) := fun q => by
    simp [portsL]
  rw [e3] at h ⊢
  exact HW.put h (portC_B _ p')
theorem updP_ob {l : List (Str × Nat × Port)} {n : Str} {p : Port} : mapK obP (updP l n p) = mapK obP l := by
  unfold mapK updP
  rw [List.map_map]
  refine List.map_congr_left fun t _ => ?_
  show (Sum.inr (if t.1 = n then (t.1, t.2.1, p) else t).1, obP (if t.1 = n then (t.1, t.2.1, p) else t).2) = ((Sum.inr t.1 : Key), obP t.2)
  by_cases e : t.1 = n
  · rw [if_pos e]
    rfl
  · rw [if_neg e]
theorem updP_abs {l : List (Str × Nat × Port)} {n : Str} {p : Port} : (updP l n p).map (fun t => (t.1, t.2.2)) = updA (l.map fun t => (t.1, t.2.2)) n p := by
  unfold updP updA
  rw [List.map_map, List.map_map]
  refine List.map_congr_left fun t _ => ?_
  show ((if t.1 = n then (t.1, t.2.1, p) else t).1, (if t.1 = n then (t.1, t.2.1, p) else t).2.2) = if t.1 = n then (t.1, p) else (t.1, t.2.2)
  by_cases e : t.1 = n
  · rw [if_pos e, if_pos e]
  · rw [if_neg e, if_neg e]
theorem HW.setPort {n : Str} {p' : Port} (h : HW μ (allC j R ++ F)) (hg : getA R.ports n = some (x, p)) (hn : (R.ports.map (·.1)).Nodup) : HW (μ.put x (portC p')) (allC j { R with ports := updP R.ports n p' } ++ F) := by
  have h2 := HW.putP (p' := p') (C := coreC j R) (l := R.ports) h.toC hg hn
  have e : coreC j { R with ports := updP R.ports n p' } = coreC j R := by
    show _ :: _ :: _ :: _ :: _ :: (R.e, Cell.dct (mapK obP (updP R.ports n p'))) :: _ = _
    rw [updP_ob]
    rfl
  refine HW.ofC ?_
  rw [e]
  exact h2
theorem ix_word {st : Stm} : ixD (stmD st) (.int 0) μ Q = Q (.str (wordS st)) μ := by
  cases st with
  | bare w => exact ixt_0
  | on w n ts => exact ixt_0
theorem nin_end {w : Str} {Q : Bool → Prop} : cmpD .NotIn (.str w) (.tup [.str "commit", .str "rollback", .str "undo"]) μ Q = Q (decide (¬ (w = "commit" ∨ w = "rollback" ∨ w = "undo"))) := by
  have e : (!([.str "commit", .str "rollback", .str "undo"] : List D).any fun y => deq y (.str w)) = decide (¬ (w = "commit" ∨ w = "rollback" ∨ w = "undo")) := by
    rw [Bool.eq_iff_iff]
    simp only [List.any_cons, List.any_nil, deq_str, Bool.or_false, Bool.not_eq_true', Bool.or_eq_false_iff, decide_eq_false_iff_not, decide_eq_true_iff]
    constructor
    · rintro ⟨a, b, c⟩ (h | h | h)
      · exact a h.symm
      · exact b h.symm
      · exact c h.symm
    · intro h
      exact ⟨fun z => h (.inl z.symm), fun z => h (.inr (.inl z.symm)), fun z => h (.inr (.inr z.symm))⟩
  have e2 : cmpD .NotIn (.str w) (.tup [.str "commit", .str "rollback", .str "undo"]) μ Q = (eqOk (.str w) = true ∧ eqOk (.tup [.str "commit", .str "rollback", .str "undo"]) = true ∧ Q (!([.str "commit", .str "rollback", .str "undo"] : List D).any fun y => deq y (.str w))) := rfl
  rw [e2, e, show eqOk (.tup [.str "commit", .str "rollback", .str "undo"]) = true from rfl, show eqOk (.str w) = true from rfl]
  simp only [true_and]
theorem three_le : 3 ≤ sizeLine := by rw [sizeLine_eq]; omega
theorem rs_take {rs : List (List Key)} {k : Nat} : D.lst ((rs.map tupK).take k) = rsD (rs.take k) := by unfold rsD; rw [List.map_take]
theorem rs_drop {rs : List (List Key)} {k : Nat} : D.lst ((rs.map tupK).drop k) = rsD (rs.drop k) := by unfold rsD; rw [List.map_drop]
theorem run_tail {n0 : Nat} {QX : XPost} {rs : List (List Key)} {m : Int} {o1 o2 o3 o4 : Option D} (hx : μ.cell x = some (portC p)) (hp : p.rows = some rs) (hm : 0 ≤ m)
    (fin : finP n0 Q (repD (.rows (rs.take (takeN rs m)) (!(rs.drop (takeN rs m)).isEmpty))) (μ.put x (portC { p with rows := some (rs.drop (takeN rs m)), done := (rs.drop (takeN rs m)).isEmpty }))) :
    wpS r5_Session__run [some (.obj j), o1, some (.int m), some (.obj x), o2, o3, o4] μ (outs n0 Q QX) := by
  have tail : ∀ (k : Nat), k = takeN rs m → wpS r6_Session__run [some (.obj j), o1, some (.int m), some (.obj x), some (.int k), o3, o4] μ (outs n0 Q QX) := by
    rintro k rfl
    simp [startE, wpS, wpT, wpE, wpA, wpI, wpG, wpGs, wpOpt, outs, wipeE, ePar, r6_Session__run, fp_rows hx, hp, rowsD, rsD, slD, l_lst, cut_to, r7_Session__run, cut_from]
    rw [rs_take, rs_drop, sp_rows hx]
    generalize takeN rs m = k at fin ⊢
    have hx2 : (μ.put x (portC { p with rows := some (rs.drop k) })).cell x = some (portC { p with rows := some (rs.drop k) }) := Sto.put_same
    simp [startE, wpS, wpT, wpE, wpA, wpI, wpG, wpGs, wpOpt, outs, wipeE, ePar, r8_Session__run, fp_rows hx2, rowsD, rsD, spLen, sq_lst, cmp_eq_int]
    rw [sp_done hx2, put_put]
    have hx3 : (μ.put x (portC { p with rows := some (rs.drop k), done := (rs.drop k).isEmpty })).cell x = some (portC { p with rows := some (rs.drop k), done := (rs.drop k).isEmpty }) := Sto.put_same
    have ed : decide (rs.length ≤ k) = (rs.drop k).isEmpty := by
      rw [Bool.eq_iff_iff, decide_eq_true_iff, List.isEmpty_iff_length_eq_zero, List.length_drop]
      omega
    dsimp only
    rw [ed]
    unfold r9_Session__run
    simp [startE, wpS, wpT, wpE, wpA, wpI, wpG, wpGs, wpOpt, outs, wipeE, ePar, three_le, fp_done hx3, -List.isEmpty_iff, -List.map_take, -List.map_drop, -List.isEmpty_eq_false_iff, -Bool.not_eq_eq_eq_not]
    rw [rs_take]
    exact fin
  simp [startE, wpS, wpT, wpE, wpA, wpI, wpG, wpGs, wpOpt, outs, wipeE, ePar, r5_Session__run, fp_rows hx, hp, rowsD, rsD, spLen, sq_lst, cmp_eq_int]
  by_cases e : m = 0
  · rw [if_pos e]
    exact tail _ (by unfold takeN; rw [if_pos e])
  · rw [if_neg e]
    have := tail m.toNat (by unfold takeN; rw [if_neg e])
    rw [Int.toNat_of_nonneg hm] at this
    exact this
theorem doC_rows {c : CS} {st : Stm} {vs : List Key} {l : List (List Key)} (h : (doC c st vs).2.2 = .rows l) : (doC c st vs).2.1 = false := by
  cases st with
  | bare w =>
    unfold doC at h ⊢
    dsimp only at h ⊢
    by_cases e1 : w = "begin"
    · rw [if_pos e1] at h ⊢
      split <;> rfl
    · rw [if_neg e1] at h ⊢
      by_cases e2 : c.mode = "none"
      · rw [if_pos e2]
      · rw [if_neg e2] at h
        unfold endC at h
        split at h
        · cases h
        · dsimp only at h
          split at h <;> cases h
  | on w n ts =>
    unfold doC at h ⊢
    dsimp only at h ⊢
    by_cases e1 : w = "save"
    · rw [if_pos e1]
      split
      · rfl
      · unfold saveC
        split <;> rfl
    · rw [if_neg e1]
      by_cases e2 : w = "undo"
      · rw [if_pos e2]
        split
        · rfl
        · unfold undoC
          split
          · rfl
          · split <;> rfl
      · rw [if_neg e2]
def ansR : Ans → Rp
  | .wrong w => .wrong w
  | .complete n => .complete n
  | .rows l => .rows l false
def okA : Ans → Bool
  | .complete _ => true
  | _ => false
theorem runA_none {s : SS} {n : Str} {m : Int} {p : Port} (hg : getA s.ports n = some p) (h1 : ¬ (s.c.mode = "failed" ∧ ¬ (wordS p.st = "commit" ∨ wordS p.st = "rollback" ∨ wordS p.st = "undo"))) (h2 : ¬ p.done = true) (h3 : p.rows = none) :
    runA s n m = match (doC s.c p.st p.vals).2.2 with
      | .rows rs => portionA { s with c := (doC s.c p.st p.vals).1, ports := if (doC s.c p.st p.vals).2.1 = true then [] else s.ports } n p rs m
      | a => ({ s with c := (doC s.c p.st p.vals).1, ports := updA (if (doC s.c p.st p.vals).2.1 = true then [] else s.ports) n { p with done := okA a } }, ansR a) := by
  unfold runA
  rw [hg]
  dsimp only
  rw [if_neg h1, if_neg h2, h3]
  dsimp only
  cases (doC s.c p.st p.vals).2.2 <;> rfl
theorem runA_some {s : SS} {n : Str} {m : Int} {p : Port} {rs : List (List Key)} (hg : getA s.ports n = some p) (h1 : ¬ (s.c.mode = "failed" ∧ ¬ (wordS p.st = "commit" ∨ wordS p.st = "rollback" ∨ wordS p.st = "undo"))) (h2 : ¬ p.done = true) (h3 : p.rows = some rs) : runA s n m = portionA s n p rs m := by
  unfold runA
  rw [hg]
  dsimp only
  rw [if_neg h1, if_neg h2, h3]
end
end M
end

section
set_option Elab.async false
set_option linter.all false
set_option maxRecDepth 100000
set_option maxHeartbeats 4000000
set_option autoImplicit false
namespace M
open PySem PySem.Spec PyProof.Rows L2
open SX (S S_len S_cat)
theorem isD_non {o : Option (List (List Key))} {μ : Sto} {Q : Bool → Prop} : cmpD .Is (rowsD o) .non μ Q = Q o.isNone := by
  cases o with
  | none => rfl
  | some l => rfl
theorem port_end {μ' : Sto} {j x : Nat} {R R' : RS} {F : Cells} {n : Str} {p p' : Port} {r : CS × Bool × Ans} (hh : HW μ' (coreC j R' ++ (portsC R ++ F))) (q : relC R R' r) (hg : getA R.ports n = some (x, p)) (hn : (R.ports.map (·.1)).Nodup) : ∃ R2, HW (μ'.put x (portC p')) (allC j R2 ++ F) ∧ R2.abs = ⟨r.1, R.stms, updA (if r.2.1 = true then [] else R.abs.ports) n p'⟩ := by
  obtain ⟨q1, q2, q3⟩ := q
  cases hb : r.2.1 with
  | true =>
    rw [hb, if_pos rfl] at q3
    have h2 := HW.putP (p' := p') (C := coreC j R') (l := R.ports) hh hg hn
    refine ⟨R', HW.ofC ?_, ?_⟩
    · rw [show portsC R' = [] by unfold portsC; rw [q3]; rfl]
      exact h2.sub (List.Sublist.append (.refl _) (List.sublist_append_right _ _))
    · rw [if_pos rfl]
      unfold RS.abs
      rw [q1, q2, q3]
      rfl
  | false =>
    rw [hb, if_neg (by simp)] at q3
    rw [show portsC R = portsC R' by unfold portsC; rw [q3]] at hh
    rw [← q3] at hg hn
    refine ⟨_, HW.setPort (p' := p') hh.ofC hg hn, ?_⟩
    rw [if_neg (by simp)]
    show SS.mk R'.core R'.stms ((updP R'.ports n p').map _) = _
    rw [updP_abs, q1, q2, q3]
    rfl
theorem w_Session__run : ∀ ds μ Q QX, μ.wf → objBs μ.next ds = true → sp_Session__run ds μ Q QX → ds.length = 3 ∧ wpS c_Session__run (startE N_Session__run ds) μ (outs μ.next Q QX) := by
  intro ds μ Q QX hw ho h
  unfold sp_Session__run at h
  split at h
  · rename_i j n m
    obtain ⟨R, F, hh, hok, hm, h1⟩ := h
    refine ⟨rfl, ?_⟩
    have hj := hh.toC.core.j
    have he : μ.cell R.e = some (.dct (mapK obP R.ports)) := hh.toC.core.e
    have := sz1000
    have hnd : (R.ports.map (·.1)).Nodup := by
      have := hok.pn
      simpa [RS.abs, Function.comp_def] using this
    simp [startE, wpS, wpT, wpE, wpA, wpI, wpG, wpGs, wpOpt, outs, wipeE, ePar, c_Session__run, N_Session__run, fl_ports hj, cmp_nin he, mapK_get, two_le]
    cases hg : getA R.ports n with
    | none =>
      have e : runA R.abs n m = (R.abs, .wrong "no portal") := by
        unfold runA
        rw [ports_get, hg]
        rfl
      rw [e] at h1
      rw [if_pos rfl]
      exact fin_S h1 hh rfl (Nat.le_refl _)
    | some xp =>
      obtain ⟨x, p⟩ := xp
      have hga : getA R.abs.ports n = some p := by rw [ports_get, hg]; rfl
      have hmem := getA_mem hg
      have hx : μ.cell x = some (portC p) := hh.pat hmem
      have hop : okP p := hok.po (n, p) (List.mem_map.mpr ⟨_, hmem, rfl⟩)
      have hv : valD (mapK obP R.ports) (.inr n) = some (.obj x) := by rw [mapK_get, hg]; rfl
      rw [if_neg (by simp)]
      simp [startE, wpS, wpT, wpE, wpA, wpI, wpG, wpGs, wpOpt, outs, wipeE, ePar, r1_Session__run, fl_ports hj, ixd_dct he hv, r2_Session__run, fl_state hj, cmp_eq_str, fp_parts hx, ix_word, nin_end, r3_Session__run, fp_done hx, truD, two_le]
      have step : ¬ (R.abs.c.mode = "failed" ∧ ¬ (wordS p.st = "commit" ∨ wordS p.st = "rollback" ∨ wordS p.st = "undo")) → (if p.done = true then finP μ.next Q (.tup [.str "wrong", .str "at end"]) μ else wpS r4_Session__run [some (.obj j), some (.str n), some (.int m), some (.obj x), none, none, none] μ (outs μ.next Q QX)) := fun hz => by
        by_cases e2 : p.done = true
        · rw [if_pos e2]
          have e : runA R.abs n m = (R.abs, .wrong "at end") := by
            unfold runA
            rw [hga]
            dsimp only
            rw [if_neg hz, if_pos e2]
          rw [e] at h1
          exact fin_S h1 hh rfl (Nat.le_refl _)
        · rw [if_neg e2]
          simp [startE, wpS, wpT, wpE, wpA, wpI, wpG, wpGs, wpOpt, outs, wipeE, ePar, r4_Session__run, fp_rows hx, isD_non]
          cases hr : p.rows with
          | some rs =>
            rw [if_neg (by simp)]
            refine run_tail hx hr hm ?_
            rw [runA_some hga hz e2 hr] at h1
            refine fin_S h1 (hh.setPort hg hnd) ?_ (Nat.le_refl _)
            unfold portionA
            simp only [RS.abs, RS.core, updP_abs]
          | none =>
            rw [if_pos rfl]
            have md := met_s (sp := sp_Session__do) (m := "_do") hj rfl
            rw [runA_none hga hz e2 hr] at h1
            simp [startE, wpS, wpT, wpE, wpA, wpI, wpG, wpGs, wpOpt, outs, wipeE, ePar, md, fp_parts hx, fp_given hx]
            refine ⟨p.st, p.vals, rfl, rfl, hop.1, by rw [hop.2.1]; exact Int.le_refl _, ?_⟩
            refine ⟨R, portsC R ++ F, p.st, p.vals, hh.toC, hok.c, rfl, hop.1, fun μ' R' hh' hr' hn' => ?_⟩
            have hx' : μ'.cell x = some (portC p) := hh'.get (List.mem_append_right _ (List.mem_append_left _ (List.mem_map.mpr ⟨_, hmem, rfl⟩)))
            have hend : ∀ p' r2, postS j F μ (⟨(doC R.core p.st p.vals).1, R.stms, updA (if (doC R.core p.st p.vals).2.1 = true then [] else R.abs.ports) n p'⟩, r2) Q → finP μ.next Q (repD r2) (μ'.put x (portC p')) := fun p' r2 hq => by
              obtain ⟨R2, k1, k2⟩ := port_end (n := n) (x := x) (p := p) (p' := p') hh' hr' hg hnd
              exact fin_S hq k1 k2 hn'
            rw [show doC R.abs.c p.st p.vals = doC R.core p.st p.vals from rfl] at h1
            cases ha : (doC R.core p.st p.vals).2.2 with
            | rows l =>
              rw [ha] at h1
              simp [startE, wpS, wpT, wpE, wpA, wpI, wpG, wpGs, wpOpt, outs, wipeE, ePar, ansD, ixt_0, ixt_1, cmp_ne_str]
              rw [sp_rows hx']
              refine run_tail (p := { p with rows := some l }) Sto.put_same rfl hm ?_
              rw [put_put]
              exact hend _ _ h1
            | complete k =>
              rw [ha] at h1
              simp (decide := true) [startE, wpS, wpT, wpE, wpA, wpI, wpG, wpGs, wpOpt, outs, wipeE, ePar, ansD, ixt_0, cmp_ne_str, cmp_eq_str]
              rw [sp_done hx']
              exact hend _ _ h1
            | wrong w =>
              rw [ha] at h1
              simp (decide := true) [startE, wpS, wpT, wpE, wpA, wpI, wpG, wpGs, wpOpt, outs, wipeE, ePar, ansD, ixt_0, cmp_ne_str, cmp_eq_str]
              rw [sp_done hx']
              exact hend _ _ h1
      by_cases c1 : R.abs.c.mode = "failed"
      · rw [if_pos (show R.mode = "failed" from c1)]
        by_cases c2 : wordS p.st = "commit" ∨ wordS p.st = "rollback" ∨ wordS p.st = "undo"
        · rw [if_neg fun z => by
            rcases c2 with y | y | y
            · exact z.1 y
            · exact z.2.1 y
            · exact z.2.2 y]
          exact step fun z => z.2 c2
        · rw [if_pos ⟨fun y => c2 (.inl y), fun y => c2 (.inr (.inl y)), fun y => c2 (.inr (.inr y))⟩]
          have e : runA R.abs n m = (R.abs, .wrong "failed") := by
            unfold runA
            rw [hga]
            dsimp only
            rw [if_pos ⟨c1, c2⟩]
          rw [e] at h1
          exact fin_S h1 hh rfl (Nat.le_refl _)
      · rw [if_neg (show ¬ R.mode = "failed" from c1)]
        exact step fun z => c1 z.1
  · exact h.elim
end M
end

section
set_option Elab.async false
set_option linter.all false
set_option maxRecDepth 100000
set_option maxHeartbeats 4000000
set_option autoImplicit false
namespace M
open PySem PySem.Spec PyProof.Rows L2
open SX (S S_len S_cat)
theorem ixs_0 {d x : D} {l : List D} {μ : Sto} {Q : Post} (h : SeqOf d (x :: l)) : ixD d (.int 0) μ Q = Q x μ := by
  rcases h with rfl | rfl
  · exact ixt_0
  · exact ixl_0
theorem ixs_1 {d x y : D} {l : List D} {μ : Sto} {Q : Post} (h : SeqOf d (x :: y :: l)) : ixD d (.int 1) μ Q = Q y μ := by
  rcases h with rfl | rfl
  · exact ixt_1
  · exact ixl_1
theorem ixt_2 {x y z : D} {l : List D} {μ : Sto} {Q : Post} : ixD (.tup (x :: y :: z :: l)) (.int 2) μ Q = Q z μ := by
  have : atI (x :: y :: z :: l) 2 = some z := atI_nat' (x :: y :: z :: l) 2
  simp [ixD, sq_tup, this]
theorem ixt_3 {x y z u : D} {l : List D} {μ : Sto} {Q : Post} : ixD (.tup (x :: y :: z :: u :: l)) (.int 3) μ Q = Q u μ := by
  have : atI (x :: y :: z :: u :: l) 3 = some u := atI_nat' (x :: y :: z :: u :: l) 3
  simp [ixD, sq_tup, this]
theorem ixs_2 {d x y z : D} {l : List D} {μ : Sto} {Q : Post} (h : SeqOf d (x :: y :: z :: l)) : ixD d (.int 2) μ Q = Q z μ := by
  rcases h with rfl | rfl
  · exact ixt_2
  · exact ixl_2
theorem ixs_3 {d x y z u : D} {l : List D} {μ : Sto} {Q : Post} (h : SeqOf d (x :: y :: z :: u :: l)) : ixD d (.int 3) μ Q = Q u μ := by
  rcases h with rfl | rfl
  · exact ixt_3
  · exact ixl_3
section
variable {μ : Sto} {j : Nat} {R : RS} {F : Cells} {Q : Post} {E : XPost}
theorem getA_drop_none {α : Type} {l : List (Str × α)} {k : Str} (h : getA l k = none) : dropA l k = l := by
  unfold getA at h
  rw [Option.map_eq_none_iff, List.find?_eq_none] at h
  unfold dropA
  rw [List.filter_eq_self]
  intro t m
  have := h t m
  simpa using this
theorem HW.dropPort (h : HW μ (allC j R ++ F)) (n : Str) : HW (μ.put R.e (.dct (mapK obP (dropA R.ports n)))) (allC j { R with ports := dropA R.ports n } ++ F) := by
  have h2 := HW.put (A := [_, _, _, _, _]) (c' := .dct (mapK obP (dropA R.ports n))) h (obP_B fun t m => h.plt (List.mem_filter.mp m).1)
  refine h2.sub ?_
  have s1 : (portsC { R with ports := dropA R.ports n }).Sublist (portsC R) := List.filter_sublist.map _
  exact .cons₂ _ (.cons₂ _ (.cons₂ _ (.cons₂ _ (.cons₂ _ (.cons₂ _ (List.Sublist.append (List.Sublist.append (.refl _) s1) (.refl _)))))))
theorem drop_abs {n : Str} : (dropA R.ports n).map (fun t => (t.1, t.2.2)) = dropA (R.ports.map fun t => (t.1, t.2.2)) n := by
  unfold dropA
  rw [List.filter_map]
  rfl
theorem pop_ap {k : Nat} {kvs : List (Key × D)} {n : Str} {f : D} (h : μ.cell k = some (.dct kvs)) : spDpop [.obj k, .str n, f] μ Q E = match valD kvs (.inr n) with
    | some d => Q d (μ.put k (.dct (dropD kvs (.inr n))))
    | none => Q f μ := by
  unfold spDpop
  simp only [h, keyOf] <;> (cases valD kvs (.inr n) <;> rfl)
theorem HW.noPorts {P : Cells} (h : HW μ (coreC j R ++ (P ++ F))) (e : R.ports = []) : HW μ (allC j R ++ F) := by
  refine HW.ofC ?_
  rw [show portsC R = [] by unfold portsC; rw [e]; rfl]
  exact h.sub (List.Sublist.append (.refl _) (List.sublist_append_right _ _))
end
theorem w_Session__run_command : ∀ ds μ Q QX, μ.wf → objBs μ.next ds = true → sp_Session__run_command ds μ Q QX → ds.length = 2 ∧ wpS c_Session__run_command (startE N_Session__run_command ds) μ (outs μ.next Q QX) := by
  intro ds μ Q QX hw ho h
  unfold sp_Session__run_command at h
  split at h
  · rename_i j d
    obtain ⟨R, F, c, hh, hok, ⟨cs, hs, hc⟩, h1⟩ := h
    refine ⟨rfl, ?_⟩
    have hj := hh.toC.core.j
    have hd := hh.toC.core.d
    have he : μ.cell R.e = some (.dct (mapK obP R.ports)) := hh.toC.core.e
    have m1 := met_s (sp := sp_Session__prepare) (m := "_prepare") hj rfl
    have m2 := met_s (sp := sp_Session__bind) (m := "_bind") hj rfl
    have m3 := met_s (sp := sp_Session__run) (m := "_run") hj rfl
    cases c with
    | prepare n z =>
      obtain ⟨rfl, hz⟩ := hc
      simp [startE, wpS, wpT, wpE, wpA, wpI, wpG, wpGs, wpOpt, outs, wipeE, ePar, c_Session__run_command, N_Session__run_command, ixs_0 hs, ixs_1 hs, ixs_2 hs, cmp_eq_str, m1]
      exact ⟨R, F, hh, hok, hz, postS_fin h1⟩
    | bind p n vs =>
      obtain ⟨v, rfl, hv, hz⟩ := hc
      simp (decide := true) [startE, wpS, wpT, wpE, wpA, wpI, wpG, wpGs, wpOpt, outs, wipeE, ePar, c_Session__run_command, N_Session__run_command, ixs_0 hs, ixs_1 hs, ixs_2 hs, ixs_3 hs, cmp_eq_str, m2]
      refine spTup_seq hv ?_
      exact ⟨R, F, vs, hh, hok, rfl, hz, postS_fin h1⟩
    | run n m =>
      obtain ⟨rfl, hm⟩ := hc
      simp (decide := true) [startE, wpS, wpT, wpE, wpA, wpI, wpG, wpGs, wpOpt, outs, wipeE, ePar, c_Session__run_command, N_Session__run_command, ixs_0 hs, ixs_1 hs, ixs_2 hs, cmp_eq_str, m3]
      exact ⟨R, F, hh, hok, hm, postS_fin h1⟩
    | forget n =>
      obtain rfl := hc
      simp (decide := true) [startE, wpS, wpT, wpE, wpA, wpI, wpG, wpGs, wpOpt, outs, wipeE, ePar, c_Session__run_command, N_Session__run_command, ixs_0 hs, ixs_1 hs, cmp_eq_str, fl_stms hj, td_dct hd, pop_ap hd, mapK_get, mapK_drop, one_le]
      cases hg : getA R.stms n with
      | none =>
        refine fin_S h1 hh ?_ (Nat.le_refl _)
        show R.abs = { R.abs with stms := dropA R.stms n }
        rw [getA_drop_none hg]
        rfl
      | some st => exact fin_S h1 (hh.putStms _) rfl (Nat.le_refl _)
    | close n =>
      obtain rfl := hc
      simp (decide := true) [startE, wpS, wpT, wpE, wpA, wpI, wpG, wpGs, wpOpt, outs, wipeE, ePar, c_Session__run_command, N_Session__run_command, ixs_0 hs, ixs_1 hs, cmp_eq_str, fl_ports hj, td_dct he, pop_ap he, mapK_get, mapK_drop, one_le]
      cases hg : getA R.ports n with
      | none =>
        refine fin_S h1 hh ?_ (Nat.le_refl _)
        show R.abs = { R.abs with ports := dropA (R.ports.map fun t => (t.1, t.2.2)) n }
        rw [← drop_abs, getA_drop_none hg]
        rfl
      | some st =>
        refine fin_S h1 (hh.dropPort n) ?_ (Nat.le_refl _)
        show SS.mk R.core R.stms ((dropA R.ports n).map _) = SS.mk R.core R.stms (dropA (R.ports.map fun t => (t.1, t.2.2)) n)
        rw [drop_abs]
  · exact h.elim
def wordR : Rp → D
  | .wrong _ => .str "wrong"
  | .complete _ => .str "complete"
  | .rows _ _ => .str "rows"
  | .closed => .str "closed"
  | .bound => .str "bound"
  | .prepared _ => .str "prepared"
  | .skipped => .str "skipped"
theorem rep_word {r : Rp} {μ : Sto} {Q : Bool → Prop} : cmpD .Eq (wordR r) (.str "wrong") μ Q = Q (isWrong r) := by
  cases r <;> (unfold wordR; dsimp only; rw [cmp_eq_str]; congr 1)
theorem rep_ix {r : Rp} {μ : Sto} {Q : Post} : ixD (repD r) (.int 0) μ Q = Q (wordR r) μ := by
  cases r <;> exact ixt_0
theorem w_Session__reply : ∀ ds μ Q QX, μ.wf → objBs μ.next ds = true → sp_Session__reply ds μ Q QX → ds.length = 2 ∧ wpS c_Session__reply (startE N_Session__reply ds) μ (outs μ.next Q QX) := by
  intro ds μ Q QX hw ho h
  unfold sp_Session__reply at h
  split at h
  · rename_i j d
    obtain ⟨R, F, c, hh, hok, hc, h1⟩ := h
    refine ⟨rfl, ?_⟩
    have hj := hh.toC.core.j
    have m1 := met_s (sp := sp_Session__run_command) (m := "_run_command") hj rfl
    simp [startE, wpS, wpT, wpE, wpA, wpI, wpG, wpGs, wpOpt, outs, wipeE, ePar, c_Session__reply, N_Session__reply, m1]
    refine ⟨R, F, c, hh, hok, hc, fun μ1 R1 hh1 hr1 hn1 => ?_⟩
    have hj1 := hh1.toC.core.j
    simp [startE, wpS, wpT, wpE, wpA, wpI, wpG, wpGs, wpOpt, outs, wipeE, ePar, r1_Session__reply, rep_ix, rep_word, fl_state hj1, cmp_eq_str]
    have h1 : postS j F μ (if isWrong (cmdA R.abs c).2 = true then (if (cmdA R.abs c).1.c.mode = "none" then ({ (cmdA R.abs c).1 with c := { (cmdA R.abs c).1.c with store := (cmdA R.abs c).1.c.base }, ports := [] }, (cmdA R.abs c).2) else ({ (cmdA R.abs c).1 with c := { (cmdA R.abs c).1.c with mode := "failed" } }, (cmdA R.abs c).2)) else cmdA R.abs c) Q := h1
    generalize cmdA R.abs c = cr at h1 hr1 ⊢
    obtain ⟨s2, r⟩ := cr
    obtain rfl : R1.abs = s2 := hr1
    dsimp only at h1 ⊢
    by_cases e1 : isWrong r = true
    · rw [if_pos e1] at h1 ⊢
      by_cases e2 : R1.abs.c.mode = "none"
      · rw [if_pos e2] at h1
        rw [if_pos (show R1.mode = "none" from e2), fl_base hj1, dct_ap hh1.toC.core.b, se_store (new_j hh1.toC _)]
        have hh2 := hh1.toC.newStore R1.base
        generalize e3 : (μ1.new (Cell.dct (stoK R1.base))).put j _ = μ2 at hh2 ⊢
        have hn2 : μ.next ≤ μ2.next := by rw [← e3]; exact Nat.le_succ_of_le hn1
        simp [startE, wpS, wpT, wpE, wpA, wpI, wpG, wpGs, wpOpt, outs, wipeE, ePar, eDnil]
        rw [se_ports (new_j hh2 _)]
        have hh3 := hh2.newPorts
        generalize e4 : (μ2.new (Cell.dct [])).put j _ = μ3 at hh3 ⊢
        have hn3 : μ.next ≤ μ3.next := by rw [← e4]; exact Nat.le_succ_of_le hn2
        simp [startE, wpS, wpT, wpE, wpA, wpI, wpG, wpGs, wpOpt, outs, wipeE, ePar, r2_Session__reply]
        exact fin_S h1 (HW.noPorts hh3 rfl) rfl hn3
      · rw [if_neg e2] at h1
        rw [if_neg (show ¬ R1.mode = "none" from e2), se_state hj1]
        simp [startE, wpS, wpT, wpE, wpA, wpI, wpG, wpGs, wpOpt, outs, wipeE, ePar, r2_Session__reply]
        refine fin_S h1 (HW.ofC (hh1.toC.setMode "failed")) rfl hn1
    · rw [if_neg e1] at h1 ⊢
      simp [startE, wpS, wpT, wpE, wpA, wpI, wpG, wpGs, wpOpt, outs, wipeE, ePar, r2_Session__reply]
      exact fin_S h1 hh1 rfl hn1
  · exact h.elim
end M
end

section
set_option Elab.async false
set_option linter.all false
set_option maxRecDepth 100000
set_option maxHeartbeats 4000000
set_option autoImplicit false
namespace M
open PySem PySem.Spec PyProof.Rows L2
open SX (S S_len S_cat)
/-! ### what stays true of a session -/
section
variable {α : Type}
theorem dropA_mem {l : List (Str × α)} {k : Str} {t : Str × α} (h : t ∈ dropA l k) : t ∈ l := (List.mem_filter.mp h).1
theorem dropA_len (l : List (Str × α)) (k : Str) : (dropA l k).length ≤ l.length := List.length_filter_le ..
theorem putA_mem {l : List (Str × α)} {k : Str} {v : α} {t : Str × α} (h : t ∈ putA l k v) : t ∈ l ∨ t = (k, v) := by
  unfold putA at h
  split at h
  · obtain ⟨u, hu, rfl⟩ := List.mem_map.mp h
    by_cases e : u.1 = k
    · rw [if_pos e, e]
      exact .inr rfl
    · rw [if_neg e]
      exact .inl hu
  · rcases List.mem_append.mp h with h | h
    · exact .inl h
    · exact .inr (List.mem_singleton.mp h)
theorem putA_old {l : List (Str × α)} {k : Str} {v : α} (h : (getA l k).isSome = true) : (putA l k v).length = l.length := by
  unfold putA
  rw [if_pos, List.length_map]
  unfold getA at h
  rw [some_map, List.find?_isSome] at h
  obtain ⟨t, m, e⟩ := h
  exact List.any_eq_true.mpr ⟨t, m, e⟩
theorem putA_len {l : List (Str × α)} {k : Str} {v : α} : (putA l k v).length ≤ l.length + 1 := by
  unfold putA
  split
  · rw [List.length_map]
    omega
  · rw [List.length_append]
    exact Nat.le_refl _
end
theorem putA_sto {s : Store} {n : Str} {rs : List Row} (h : stoOk s) (hg : (getA s n).isSome = true) (hr : rs.length ≤ 20 ∧ Rising rs) : stoOk (putA s n rs) :=
  ⟨by rw [putA_old hg]; exact h.1, fun t m => by
    rcases putA_mem m with m | rfl
    · exact h.2 t m
    · exact hr⟩
theorem create_ok {s : Store} {n : Str} (h : stoOk s) : stoOk (createA s n).1 := by
  unfold createA
  by_cases e1 : (getA s n).isSome = true
  · rw [if_pos e1]
    exact h
  · rw [if_neg e1]
    by_cases e2 : s.length = 4
    · rw [if_pos e2]
      exact h
    · rw [if_neg e2]
      refine ⟨?_, fun t m => ?_⟩
      · have := putA_len (l := s) (k := n) (v := ([] : List Row))
        have := h.1
        show (putA s n []).length ≤ 4
        omega
      · rcases putA_mem m with m | rfl
        · exact h.2 t m
        · exact ⟨Nat.zero_le _, List.Pairwise.nil⟩
theorem putR_ok {s : Store} {n : Str} {rows : List Row} {k e : Key} (h : stoOk s) (hg : getA s n = some rows) : stoOk (putR s n rows k e).1 := by
  unfold putR
  split
  · exact h
  · refine putA_sto h (by rw [hg]; rfl) ⟨?_, (putM_ok (h.2 _ (getA_mem hg)).2).1⟩
    rw [putM_len]
    omega
theorem delR_ok {s : Store} {n : Str} {rows : List Row} {k : Key} (h : stoOk s) (hg : getA s n = some rows) : stoOk (delR s n rows k).1 :=
  putA_sto h (by rw [hg]; rfl) ⟨Nat.le_trans (withoutA_le rows k) (h.2 _ (getA_mem hg)).1, (h.2 _ (getA_mem hg)).2.sublist List.filter_sublist⟩
theorem doA_ok {s : Store} {w n : Str} {vs : List Key} (h : stoOk s) : stoOk (doA s w n vs).1 := by
  unfold doA
  split
  · exact create_ok h
  · split
    · exact h
    · rename_i rows hg
      unfold doR
      split
      · exact ⟨Nat.le_trans (dropA_len s n) h.1, fun t m => h.2 t (dropA_mem m)⟩
      · split
        · split
          · exact putR_ok h hg
          · exact h
        · split
          · split
            · exact delR_ok h hg
            · exact h
          · exact h
theorem found_len {w : Str} {rows : List Row} {vs : List Key} (h : rows.length ≤ 20) : (foundA w rows vs).length ≤ 20 := by
  unfold foundA
  split
  · exact (by decide : (1 : Nat) ≤ 20)
  · split
    · split
      · rw [List.length_map]
        exact Nat.le_trans (List.length_filter_le ..) h
      · exact Nat.zero_le _
    · split
      · rw [List.length_map]
        exact Nat.le_trans (List.length_filter_le ..) h
      · rw [List.length_map]
        exact h
theorem doA_rows {s : Store} {w n : Str} {vs : List Key} {l : List (List Key)} (h : stoOk s) (e : (doA s w n vs).2 = .rows l) : l.length ≤ 20 := by
  unfold doA at e
  split at e
  · unfold createA at e
    split at e
    · cases e
    · split at e <;> cases e
  · split at e
    · cases e
    · rename_i rows hg
      have hl := (h.2 _ (getA_mem hg)).1
      unfold doR at e
      split at e
      · cases e
      · split at e
        · split at e
          · unfold putR at e
            split at e <;> cases e
          · cases e
        · split at e
          · split at e
            · cases e
            · cases e
          · cases e
            exact found_len hl
theorem doC_ok {c : CS} {st : Stm} {vs : List Key} (h : okC c) : okC (doC c st vs).1 := by
  obtain ⟨h1, h2, h3, h4, h5⟩ := h
  have hs : okC c := ⟨h1, h2, h3, h4, h5⟩
  cases st with
  | bare w =>
    unfold doC
    dsimp only
    split
    · split
      · exact hs
      · exact ⟨h1, h2, .inr (.inl rfl), h4, h5⟩
    · split
      · exact hs
      · unfold endC
        split
        · exact ⟨h1, h1, .inl rfl, Nat.zero_le _, fun t m => by cases m⟩
        · exact ⟨h2, h2, .inl rfl, Nat.zero_le _, fun t m => by cases m⟩
  | on w n ts =>
    unfold doC
    dsimp only
    split
    · split
      · exact hs
      · unfold saveC
        split
        · exact hs
        · rename_i e
          refine ⟨h1, h2, h3, ?_, fun t m => ?_⟩
          · show (c.saves ++ [(n, c.store)]).length ≤ 10
            rw [List.length_append, List.length_singleton]
            omega
          · rcases List.mem_append.mp m with m | m
            · exact h5 t m
            · rw [List.mem_singleton] at m
              subst m
              exact h1
    · split
      · split
        · exact hs
        · unfold undoC
          split
          · exact hs
          · split
            · rename_i t ht
              refine ⟨h5 t (List.mem_of_getElem? ht), h2, .inr (.inl rfl), ?_, fun u m => h5 u (List.mem_of_mem_take m)⟩
              show (c.saves.take _).length ≤ 10
              rw [List.length_take]
              omega
            · exact hs
      · exact ⟨doA_ok h1, h2, h3, h4, h5⟩
theorem doC_len {c : CS} {st : Stm} {vs : List Key} {l : List (List Key)} (h : okC c) (e : (doC c st vs).2.2 = .rows l) : l.length ≤ 20 := by
  cases st with
  | bare w =>
    unfold doC at e
    dsimp only at e
    split at e
    · split at e <;> cases e
    · split at e
      · cases e
      · unfold endC at e
        split at e
        · cases e
        · dsimp only at e
          split at e <;> cases e
  | on w n ts =>
    unfold doC at e
    dsimp only at e
    split at e
    · split at e
      · cases e
      · unfold saveC at e
        split at e <;> cases e
    · split at e
      · split at e
        · cases e
        · unfold undoC at e
          split at e
          · cases e
          · split at e <;> cases e
      · exact doA_rows h.1 e
theorem updA_names {α : Type} {l : List (Str × α)} {n : Str} {v : α} : (updA l n v).map (·.1) = l.map (·.1) := by
  unfold updA
  rw [List.map_map]
  refine List.map_congr_left fun t _ => ?_
  show (if t.1 = n then (t.1, v) else t).1 = t.1
  split <;> rfl
theorem updA_mem {α : Type} {l : List (Str × α)} {n : Str} {v : α} {t : Str × α} (h : t ∈ updA l n v) : t ∈ l ∨ t.2 = v := by
  unfold updA at h
  obtain ⟨u, hu, rfl⟩ := List.mem_map.mp h
  split
  · exact .inr rfl
  · exact .inl hu
theorem okSS.upd {s : SS} {n : Str} {p : Port} (h : okSS s) (hp : okP p) : okSS { s with ports := updA s.ports n p } :=
  ⟨h.c, h.sl, h.st, by show (updA s.ports n p).length ≤ 8; unfold updA; rw [List.length_map]; exact h.pl, by show ((updA s.ports n p).map (·.1)).Nodup; rw [updA_names]; exact h.pn, fun t m => by
    rcases updA_mem m with m | e
    · exact h.po t m
    · rw [e]
      exact hp⟩
theorem okSS.core {s : SS} {c : CS} {b : Bool} (h : okSS s) (hc : okC c) : okSS { s with c := c, ports := if b = true then [] else s.ports } := by
  cases b with
  | true => exact ⟨hc, h.sl, h.st, Nat.zero_le _, List.nodup_nil, fun t m => by cases m⟩
  | false => exact ⟨hc, h.sl, h.st, h.pl, h.pn, h.po⟩
theorem runA_ok {s : SS} {n : Str} {m : Int} (h : okSS s) : okSS (runA s n m).1 := by
  unfold runA
  cases hg : getA s.ports n with
  | none => exact h
  | some p =>
    have hp : okP p := h.po _ (getA_mem hg)
    dsimp only
    split
    · exact h
    · split
      · exact h
      · split
        · rename_i rs hr
          refine h.upd ⟨hp.1, hp.2.1, fun l e => ?_⟩
          cases e
          rw [List.length_drop]
          have := hp.2.2 _ hr
          omega
        · have h2 := okSS.core (b := (doC s.c p.st p.vals).2.1) h (doC_ok (st := p.st) (vs := p.vals) h.c)
          split
          · rename_i rs ha
            refine okSS.upd h2 ⟨hp.1, hp.2.1, fun l e => ?_⟩
            cases e
            rw [List.length_drop]
            have := doC_len h.c ha
            omega
          · exact okSS.upd h2 ⟨hp.1, hp.2.1, hp.2.2⟩
          · exact okSS.upd h2 ⟨hp.1, hp.2.1, hp.2.2⟩
theorem readA_ok {l : List Nat} {st : Stm} (h : readA l = some st) : stmOkA st := by
  cases hr : readS l with
  | none =>
    rw [read_none hr] at h
    cases h
  | some ds =>
    obtain ⟨st2, e, _, hst⟩ := read_stm hr
    rw [e] at h
    cases h
    exact hst
theorem cmdA_ok {s : SS} {c : Cmd} (h : okSS s) : okSS (cmdA s c).1 := by
  cases c with
  | prepare n z =>
    show okSS (prepareA s n z).1
    unfold prepareA
    split
    · exact h
    · rename_i e1
      split
      · exact h
      · rename_i e2
        cases hr : readA z.cps.toList with
        | none => exact h
        | some st =>
          refine ⟨h.c, ?_, fun t m => ?_, h.pl, h.pn, h.po⟩
          · have := putA_len (l := s.stms) (k := n) (v := st)
            have := h.sl
            show (putA s.stms n st).length ≤ 8
            omega
          · rcases putA_mem m with m | rfl
            · exact h.st t m
            · exact readA_ok hr
  | bind p n vs =>
    show okSS (bindA s p n vs).1
    unfold bindA
    split
    · exact h
    · rename_i e1
      split
      · exact h
      · rename_i e2
        cases hg : getA s.stms n with
        | none => exact h
        | some st =>
          dsimp only
          split
          · exact h
          · rename_i e3
            have e4 : putA s.ports p ⟨st, vs, none, false⟩ = s.ports ++ [(p, ⟨st, vs, none, false⟩)] := putA_new (by simpa using e1)
            refine ⟨h.c, h.sl, h.st, ?_, ?_, fun t m => ?_⟩
            · show (putA s.ports p _).length ≤ 8
              rw [e4, List.length_append, List.length_singleton]
              have := h.pl
              omega
            · show ((putA s.ports p _).map (·.1)).Nodup
              rw [e4, List.map_append, List.nodup_append]
              refine ⟨h.pn, by simp, fun a ha b hb e => ?_⟩
              have hb : b = p := by simpa using hb
              subst hb
              subst e
              obtain ⟨t, m, rfl⟩ := List.mem_map.mp ha
              refine e1 ?_
              unfold getA
              rw [some_map, List.find?_isSome]
              exact ⟨t, m, by simp⟩
            · have m : t ∈ putA s.ports p ⟨st, vs, none, false⟩ := m
              rw [e4] at m
              rcases List.mem_append.mp m with m | m
              · exact h.po t m
              · rw [List.mem_singleton] at m
                subst m
                exact ⟨h.st _ (getA_mem hg), by simpa using e3, fun l e => by cases e⟩
  | run n m => exact runA_ok h
  | forget n => exact ⟨h.c, Nat.le_trans (dropA_len _ _) h.sl, fun t m => h.st t (dropA_mem m), h.pl, h.pn, h.po⟩
  | close n => exact ⟨h.c, h.sl, h.st, Nat.le_trans (dropA_len _ _) h.pl, (List.filter_sublist.map _).nodup h.pn, fun t m => h.po t (dropA_mem m)⟩
theorem replyA_ok {s : SS} {c : Cmd} (h : okSS s) : okSS (replyA s c).1 := by
  have h2 := cmdA_ok (c := c) h
  unfold replyA
  dsimp only
  split
  · split
    · exact ⟨⟨h2.c.2.1, h2.c.2.1, h2.c.2.2.1, h2.c.2.2.2⟩, h2.sl, h2.st, Nat.zero_le _, List.nodup_nil, fun t m => by cases m⟩
    · exact ⟨⟨h2.c.1, h2.c.2.1, .inr (.inr rfl), h2.c.2.2.2⟩, h2.sl, h2.st, h2.pl, h2.pn, h2.po⟩
  · exact h2
end M
end

section
set_option Elab.async false
set_option linter.all false
set_option maxRecDepth 100000
set_option maxHeartbeats 4000000
set_option autoImplicit false
namespace M
open PySem PySem.Spec PyProof.Rows L2
open SX (S S_len S_cat)
theorem batchL_snoc {c : Cmd} : ∀ {cs : List Cmd} {s : SS} {rs : List Rp}, batchL s rs (cs ++ [c]) =
    if ((batchL s rs cs).2.getLast?.map isBad).getD false = true then ((batchL s rs cs).1, (batchL s rs cs).2 ++ [.skipped]) else ((replyA (batchL s rs cs).1 c).1, (batchL s rs cs).2 ++ [(replyA (batchL s rs cs).1 c).2])
  | [], s, rs => by
    by_cases h : (rs.getLast?.map isBad).getD false = true <;> simp [batchL, h]
  | d :: cs, s, rs => by
    rw [List.cons_append]
    unfold batchL
    split
    · exact batchL_snoc
    · exact batchL_snoc
theorem batchL_len : ∀ {cs : List Cmd} {s : SS} {rs : List Rp}, (batchL s rs cs).2.length = rs.length + cs.length
  | [], _, _ => rfl
  | c :: cs, s, rs => by
    unfold batchL
    split <;> (rw [batchL_len]; simp; omega)
theorem All2.at {α β : Type} {Rr : α → β → Prop} : ∀ {l : List α} {m : List β} {i : Nat} {a : α}, All2 Rr l m → l[i]? = some a → ∃ b, m[i]? = some b ∧ Rr a b
  | [], [], i, a, _, h => by cases h
  | x :: l, y :: m, 0, a, ⟨r, _⟩, h => ⟨y, rfl, by cases h; exact r⟩
  | x :: l, y :: m, i + 1, a, ⟨_, t⟩, h => All2.at (l := l) (m := m) (i := i) t h
theorem it_seqC {F : Cells} {d : D} {cds : List D} {μ : Sto} {K : IPost} (h : SeqC F d cds) (hF : ∀ p ∈ F, μ.cell p.1 = some p.2) (hk : ∀ gd : Sto → Prop, (∀ μ' : Sto, (∀ p ∈ F, μ'.cell p.1 = some p.2) → gd μ') → K cds gd μ) : itD d μ K := by
  rcases h with h | ⟨k, rfl, hm⟩
  · rw [it_seq h]
    exact hk _ fun _ _ => trivial
  · unfold itD
    simp only [hF _ hm]
    exact hk _ fun μ' h => h _ hm
theorem rep_bad {r : Rp} {μ : Sto} {Q : Bool → Prop} : cmpD .In (wordR r) (.tup [.str "wrong", .str "skipped"]) μ Q = Q (isBad r) := by
  have e : ∀ z : Str, cmpD .In (.str z) (.tup [.str "wrong", .str "skipped"]) μ Q = Q (decide (Str.ofString "wrong" = z) || decide (Str.ofString "skipped" = z)) := fun z => by
    have e2 : cmpD .In (.str z) (.tup [.str "wrong", .str "skipped"]) μ Q = (eqOk (.str z) = true ∧ eqOk (.tup [.str "wrong", .str "skipped"]) = true ∧ Q (([.str "wrong", .str "skipped"] : List D).any fun y => deq y (.str z))) := rfl
    rw [e2, show eqOk (.tup [.str "wrong", .str "skipped"]) = true from rfl, show eqOk (.str z) = true from rfl]
    simp only [true_and, List.any_cons, List.any_nil, deq_str, Bool.or_false]
  cases r <;> (unfold wordR; dsimp only; rw [e]; congr 1)
theorem wf_del {μ : Sto} {k : Nat} (h : μ.wf) : (μ.del k).wf := fun j d e => by
  by_cases hj : j = k
  · subst hj
    rw [Sto.del_same] at e
    cases e
  · rw [Sto.del_ne hj] at e
    exact h j d e
theorem HW.del {μ : Sto} {A B : Cells} {k : Nat} {c : Cell} (h : HW μ (A ++ (k, c) :: B)) : HW (μ.del k) (A ++ B) := by
  have h2 := h.drop
  refine ⟨wf_del h.wf, h2.nd, fun p m => ?_⟩
  have nd := h.nd
  rw [(List.perm_middle.map _).nodup_iff, List.map_cons, List.nodup_cons] at nd
  rw [Sto.del_ne fun e => nd.1 (List.mem_map.mpr ⟨p, m, e⟩)]
  exact h2.at_ p m
theorem reps_B (n : Nat) (rs : List Rp) : objBs n (rs.map repD) = true := objBs_map fun r _ => repD_B n r
theorem out_B (n : Nat) (r : SS × List Rp) : objB n (outD r) = true := by
  show (true && (objBs n (r.2.map repD) && true)) = true
  rw [reps_B]
  rfl
theorem tru_obj {k : Nat} {ds : List D} {μ : Sto} {Q : Bool → Prop} (h : μ.cell k = some (.lst ds)) : truD (.obj k) μ Q = Q (!ds.isEmpty) := by simp [truD, sq_obj h]
theorem ixo_last {x : D} {l : List D} {μ : Sto} {Q : Post} {o : Nat} (hc : μ.cell o = some (.lst l)) (h : l.getLast? = some x) : ixD (.obj o) (.int (-1)) μ Q = Q x μ := by simp [ixD, sq_obj hc, atI_neg1, h]
theorem w_Session_run_batch : ∀ ds μ Q QX, μ.wf → objBs μ.next ds = true → sp_Session_run_batch ds μ Q QX → ds.length = 2 ∧ wpS c_Session_run_batch (startE N_Session_run_batch ds) μ (outs μ.next Q QX) := by
  intro ds μ Q QX hw ho h
  unfold sp_Session_run_batch at h
  split at h
  · rename_i j d
    obtain ⟨R, F, cds, cs, hh, hok, hs, hcs, hl, h1⟩ := h
    refine ⟨rfl, ?_⟩
    have := sz1000
    simp [startE, wpS, wpT, wpE, wpA, wpI, wpG, wpGs, wpOpt, outs, wipeE, ePar, c_Session_run_batch, N_Session_run_batch, r1_Session_run_batch]
    have hh0 : HW (μ.new (.lst [])) (allC j R ++ (μ.next, .lst (([] : List Rp).map repD)) :: F) := HW.new hh rfl
    have hF : ∀ {μ' R' rs}, HW μ' (allC j R' ++ (μ.next, .lst rs) :: F) → ∀ p ∈ F, μ'.cell p.1 = some p.2 := fun h p m => h.at_ p (by simp [m])
    refine it_seqC hs (hF hh0) fun gd hgd => ?_
    refine for_gen (fun i δ μ' => ∃ R' rs o, HW μ' (allC j R' ++ (μ.next, .lst (rs.map repD)) :: F) ∧ okSS R'.abs ∧ (R'.abs, rs) = batchL R.abs [] (cs.take i) ∧ μ.next ≤ μ'.next ∧ δ = [some (.obj j), some d, some (.obj μ.next), o]) ⟨R, [], none, hh0, hok, rfl, Nat.le_succ _, rfl⟩ ?_ ?_
    · rintro i x LW hx hLW δ μ' ⟨R', rs, o, hh', hok', hb, hn', rfl⟩
      refine ⟨hgd _ (hF hh'), ?_⟩
      obtain ⟨c, hci, hc⟩ := hcs.at hx
      have ht : cs.take (i + 1) = cs.take i ++ [c] := by rw [List.take_add_one, hci]; rfl
      have hsn := batchL_snoc (c := c) (cs := cs.take i) (s := R.abs) (rs := [])
      rw [← ht, ← hb] at hsn
      dsimp only at hsn
      have hrl : rs.length < sizeLine := by
        have : rs.length = (cs.take i).length := by
          have := batchL_len (cs := cs.take i) (s := R.abs) (rs := [])
          rw [← hb] at this
          simpa using this
        rw [List.length_take] at this
        have := sizeLine_eq
        omega
      have hr : μ'.cell μ.next = some (.lst (rs.map repD)) := hh'.get (by simp)
      have hj := hh'.toC.core.j
      have m1 := met_s (sp := sp_Session__reply) (m := "_reply") hj rfl
      have good : (rs.getLast?.map isBad).getD false = false → sp_Session__reply [.obj j, x] μ' (fun y μ2 => spApp [.obj μ.next, y] μ2 (fun _ μ3 => LW [some (.obj j), some d, some (.obj μ.next), some x] μ3) fun _ _ => False) (fun x μ' => finX μ.next QX x μ') := fun hz => by
        rw [hz, if_neg (by simp)] at hsn
        refine ⟨R', (μ.next, .lst (rs.map repD)) :: F, c, hh', hok', hc, fun μ2 R2 hh2 hr2 hn2 => ?_⟩
        have hr2' : μ2.cell μ.next = some (.lst (rs.map repD)) := hh2.get (by simp)
        dsimp only
        rw [app_obj hr2' (by rw [List.length_map]; exact hrl)]
        have e3 : rs.map repD ++ [repD (replyA R'.abs c).2] = (rs ++ [(replyA R'.abs c).2]).map repD := by rw [List.map_append]; rfl
        rw [e3]
        refine hLW _ _ ⟨R2, rs ++ [(replyA R'.abs c).2], _, HW.put (A := allC j R2) hh2 (reps_B _ _), ?_, ?_, Nat.le_trans hn' hn2, rfl⟩
        · rw [hr2]
          exact replyA_ok hok'
        · rw [hr2, hsn]
      simp [startE, wpS, wpT, wpE, wpA, wpI, wpG, wpGs, wpOpt, outs, wipeE, ePar, b1_Session_run_batch, tru_obj hr, td_obj hr, m1]
      cases hz : rs.getLast? with
      | none =>
        have e : rs = [] := List.getLast?_eq_none_iff.mp hz
        rw [if_pos (by simp [e])]
        exact good (by rw [hz]; rfl)
      | some r =>
        have e : ¬ rs = [] := fun z => by rw [z] at hz; cases hz
        rw [if_neg (by simp [e])]
        have hla : (rs.map repD).getLast? = some (repD r) := by rw [List.getLast?_map, hz]; rfl
        rw [ixo_last hr hla, rep_ix]
        simp [startE, wpS, wpT, wpE, wpA, wpI, wpG, wpGs, wpOpt, outs, wipeE, ePar, two_le, td_obj hr, m1]
        rw [rep_bad]
        cases hb2 : isBad r with
        | true =>
          rw [if_pos rfl]
          rw [hz] at hsn
          simp only [Option.map_some, hb2, Option.getD_some, if_true] at hsn
          simp [startE, wpS, wpT, wpE, wpA, wpI, wpG, wpGs, wpOpt, outs, wipeE, ePar, one_le]
          rw [app_obj hr (by rw [List.length_map]; exact hrl)]
          have e3 : rs.map repD ++ [D.tup [.str "skipped"]] = (rs ++ [Rp.skipped]).map repD := by rw [List.map_append]; rfl
          rw [e3]
          exact hLW _ _ ⟨R', rs ++ [Rp.skipped], _, HW.put (A := allC j R') (c' := .lst ((rs ++ [Rp.skipped]).map repD)) hh' (reps_B _ _), hok', hsn.symm, hn', rfl⟩
        | false =>
          rw [if_neg (by simp)]
          exact good (by rw [hz]; exact hb2)
    · rintro δ μ' ⟨R', rs, o, hh', hok', hb, hn', rfl⟩
      refine ⟨hgd _ (hF hh'), ?_⟩
      have hj := hh'.toC.core.j
      have hbb : batchL R.abs [] cs = (R'.abs, rs) := by
        have e : cds.length = cs.length := hcs.len
        rw [e, List.take_length] at hb
        exact hb.symm
      unfold batchA at h1
      rw [hbb] at h1
      dsimp only at h1
      have hend : ∀ μ2 R2, HW μ2 (allC j R2 ++ (μ.next, .lst (rs.map repD)) :: F) → μ.next ≤ μ2.next → R2.abs = closeA R'.abs → wpS r3_Session_run_batch [some (.obj j), some d, some (.obj μ.next), o] μ2 (outs μ.next Q QX) := fun μ2 R2 hh2 hn2 he2 => by
        have hj2 := hh2.toC.core.j
        have hr2 : μ2.cell μ.next = some (.lst (rs.map repD)) := hh2.get (by simp)
        simp [startE, wpS, wpT, wpE, wpA, wpI, wpG, wpGs, wpOpt, outs, wipeE, ePar, r3_Session_run_batch, fl_state hj2, hr2, two_le]
        have h3 := HW.del hh2
        refine fin_all h3.wf hn2 (out_B _ (closeA R'.abs, rs)) ?_
        have h4 := h1 _ _ h3 he2 hn2
        have e5 : R2.mode = (closeA R'.abs).c.mode := by rw [← he2]; rfl
        rw [e5]
        exact h4
      simp [startE, wpS, wpT, wpE, wpA, wpI, wpG, wpGs, wpOpt, outs, wipeE, ePar, r2_Session_run_batch, fl_state hj, cmp_eq_str]
      by_cases e : R'.abs.c.mode = "none"
      · rw [if_pos (show R'.mode = "none" from e)]
        simp [startE, wpS, wpT, wpE, wpA, wpI, wpG, wpGs, wpOpt, outs, wipeE, ePar, fl_store hj, dct_ap hh'.toC.core.a]
        rw [se_base (new_j hh'.toC _)]
        have hh2 := hh'.toC.newBase R'.store
        generalize e3 : (μ'.new (Cell.dct (stoK R'.store))).put j _ = μ2 at hh2 ⊢
        have hn2 : μ.next ≤ μ2.next := by rw [← e3]; exact Nat.le_succ_of_le hn'
        simp [startE, wpS, wpT, wpE, wpA, wpI, wpG, wpGs, wpOpt, outs, wipeE, ePar, eDnil]
        rw [se_ports (new_j hh2 _)]
        have hh3 := hh2.newPorts
        generalize e4 : (μ2.new (Cell.dct [])).put j _ = μ3 at hh3 ⊢
        have hn3 : μ.next ≤ μ3.next := by rw [← e4]; exact Nat.le_succ_of_le hn2
        refine hend _ _ (HW.noPorts hh3 rfl) hn3 ?_
        unfold closeA
        rw [if_pos e]
        rfl
      · rw [if_neg (show ¬ R'.mode = "none" from e)]
        refine hend _ _ hh' hn' ?_
        unfold closeA
        rw [if_neg e]
  · exact h.elim
end M
end

section
set_option Elab.async false
set_option linter.all false
set_option maxRecDepth 100000
set_option maxHeartbeats 4000000
set_option autoImplicit false
namespace M
open PySem PySem.Spec PyProof.Rows L2
open SX (S S_len S_cat)
section
variable {μ : Sto} {j : Nat} {Q : Post} {E : XPost} {δ : Env} {O : Outs}
theorem se_gen {f : Str} {v : D} {c : Nat} {fs : List (Str × D)} (h : μ.cell j = some (.ins c fs)) (hl : fs.length < 1000) : eSet [c] f δ [v, .obj j] μ O = O.nx δ (μ.put j (.ins c (setF f v fs))) := by simp [eSet, setD, insD, h, hl]
theorem ins_new {c : Nat} {fs : List (Str × D)} {x : Cell} (h : μ.cell j = some (.ins c fs)) (hw : μ.wf) : (μ.new x).cell j = some (.ins c fs) := by
  rw [Sto.new_ne (Nat.ne_of_lt (hw _ _ h).1)]
  exact h
end
def insF (l : List (Str × D)) : Cell := .ins 11 l
theorem w_Session___init__ : ∀ ds μ Q QX, μ.wf → objBs μ.next ds = true → sp_Session___init__ ds μ Q QX → ds.length = 2 ∧ wpS c_Session___init__ (startE N_Session___init__ ds) μ (outs μ.next Q QX) := by
  intro ds μ Q QX hw ho h
  unfold sp_Session___init__ at h
  split at h
  · rename_i j d
    obtain ⟨F, tds, s, hh, hs, hr, hok, hnd, h1⟩ := h
    refine ⟨rfl, ?_⟩
    have hj : μ.cell j = some (.ins 11 []) := hh.get (by simp)
    simp [startE, wpS, wpT, wpE, wpA, wpI, wpG, wpGs, wpOpt, outs, wipeE, ePar, c_Session___init__, N_Session___init__]
    refine ⟨tds, s, hs, hr, hok, hnd, ?_⟩
    have lj : j < μ.next := (hh.wf _ _ hj).1
    have g1 := HW.new (A := [_]) hh (stoK_B (μ.next + 1) s)
    have g2 := HW.put (A := []) (c' := .ins 11 [("_store", .obj μ.next)]) g1 (by simp [cellB, objBs, objB, Sto.new])
    dsimp only
    rw [se_gen (ins_new hj hh.wf) (by simp)]
    change wpS r1_Session___init__ [some (.obj j), some d] ((μ.new (.dct (stoK s))).put j (.ins 11 [("_store", .obj μ.next)])) (outs μ.next Q QX)
    have n2 : ((μ.new (.dct (stoK s))).put j (.ins 11 [("_store", .obj μ.next)])).next = μ.next + 1 := rfl
    generalize (μ.new (.dct (stoK s))).put j (.ins 11 [("_store", .obj μ.next)]) = μ2 at g2 n2 ⊢
    have hj2 : μ2.cell j = some (.ins 11 [("_store", .obj μ.next)]) := g2.get (by simp)
    have ha2 : μ2.cell μ.next = some (.dct (stoK s)) := g2.get (by simp)
    simp [startE, wpS, wpT, wpE, wpA, wpI, wpG, wpGs, wpOpt, outs, wipeE, ePar, r1_Session___init__, fl_gen (f := "_store") (v := .obj μ.next) hj2 rfl, dct_ap ha2]
    rw [se_gen (ins_new hj2 g2.wf) (by simp)]
    have g3 := HW.new (A := [_, _]) g2 (stoK_B (μ2.next + 1) s)
    have g4 := HW.put (A := []) (c' := .ins 11 [("_store", .obj μ.next), ("_base", .obj μ2.next)]) g3 (by simp [cellB, objBs, objB, Sto.new]; omega)
    change wpS r2_Session___init__ [some (.obj j), some d] ((μ2.new (.dct (stoK s))).put j (.ins 11 [("_store", .obj μ.next), ("_base", .obj μ2.next)])) (outs μ.next Q QX)
    have n4 : ((μ2.new (.dct (stoK s))).put j (.ins 11 [("_store", .obj μ.next), ("_base", .obj μ2.next)])).next = μ2.next + 1 := rfl
    generalize (μ2.new (.dct (stoK s))).put j (.ins 11 [("_store", .obj μ.next), ("_base", .obj μ2.next)]) = μ4 at g4 n4 ⊢
    have hj4 : μ4.cell j = some (.ins 11 [("_store", .obj μ.next), ("_base", .obj μ2.next)]) := g4.get (by simp)
    simp [startE, wpS, wpT, wpE, wpA, wpI, wpG, wpGs, wpOpt, outs, wipeE, ePar, r2_Session___init__]
    rw [se_gen hj4 (by simp)]
    have g5 := HW.put (A := []) (c' := .ins 11 [("_store", .obj μ.next), ("_base", .obj μ2.next), ("_state", .str "none")]) g4 (by simp [cellB, objBs, objB]; omega)
    change wpS r3_Session___init__ [some (.obj j), some d] (μ4.put j (.ins 11 [("_store", .obj μ.next), ("_base", .obj μ2.next), ("_state", .str "none")])) (outs μ.next Q QX)
    have n5 : (μ4.put j (.ins 11 [("_store", .obj μ.next), ("_base", .obj μ2.next), ("_state", .str "none")])).next = μ4.next := rfl
    generalize μ4.put j (.ins 11 [("_store", .obj μ.next), ("_base", .obj μ2.next), ("_state", .str "none")]) = μ5 at g5 n5 ⊢
    have hj5 : μ5.cell j = some (.ins 11 [("_store", .obj μ.next), ("_base", .obj μ2.next), ("_state", .str "none")]) := g5.get (by simp)
    simp [startE, wpS, wpT, wpE, wpA, wpI, wpG, wpGs, wpOpt, outs, wipeE, ePar, r3_Session___init__]
    rw [se_gen (ins_new hj5 g5.wf) (by simp)]
    have g6 := HW.new (A := [_, _, _]) (c := .lst []) g5 rfl
    have g7 := HW.put (A := []) (c' := .ins 11 [("_store", .obj μ.next), ("_base", .obj μ2.next), ("_state", .str "none"), ("_savepoints", .obj μ5.next)]) g6 (by simp [cellB, objBs, objB, Sto.new]; omega)
    change wpS r4_Session___init__ [some (.obj j), some d] ((μ5.new (.lst [])).put j (.ins 11 [("_store", .obj μ.next), ("_base", .obj μ2.next), ("_state", .str "none"), ("_savepoints", .obj μ5.next)])) (outs μ.next Q QX)
    have n7 : ((μ5.new (.lst [])).put j (.ins 11 [("_store", .obj μ.next), ("_base", .obj μ2.next), ("_state", .str "none"), ("_savepoints", .obj μ5.next)])).next = μ5.next + 1 := rfl
    generalize (μ5.new (.lst [])).put j (.ins 11 [("_store", .obj μ.next), ("_base", .obj μ2.next), ("_state", .str "none"), ("_savepoints", .obj μ5.next)]) = μ7 at g7 n7 ⊢
    have hj7 : μ7.cell j = some (.ins 11 [("_store", .obj μ.next), ("_base", .obj μ2.next), ("_state", .str "none"), ("_savepoints", .obj μ5.next)]) := g7.get (by simp)
    simp [startE, wpS, wpT, wpE, wpA, wpI, wpG, wpGs, wpOpt, outs, wipeE, ePar, r4_Session___init__, eDnil]
    rw [se_gen (ins_new hj7 g7.wf) (by simp)]
    have g8 := HW.new (A := [_, _, _, _]) (c := .dct (mapK stmD [])) g7 rfl
    have g9 := HW.put (A := []) (c' := .ins 11 [("_store", .obj μ.next), ("_base", .obj μ2.next), ("_state", .str "none"), ("_savepoints", .obj μ5.next), ("_statements", .obj μ7.next)]) g8 (by simp [cellB, objBs, objB, Sto.new]; omega)
    change wpS r5_Session___init__ [some (.obj j), some d] ((μ7.new (.dct (mapK stmD []))).put j (.ins 11 [("_store", .obj μ.next), ("_base", .obj μ2.next), ("_state", .str "none"), ("_savepoints", .obj μ5.next), ("_statements", .obj μ7.next)])) (outs μ.next Q QX)
    have n9 : ((μ7.new (.dct (mapK stmD []))).put j (.ins 11 [("_store", .obj μ.next), ("_base", .obj μ2.next), ("_state", .str "none"), ("_savepoints", .obj μ5.next), ("_statements", .obj μ7.next)])).next = μ7.next + 1 := rfl
    generalize (μ7.new (.dct (mapK stmD []))).put j (.ins 11 [("_store", .obj μ.next), ("_base", .obj μ2.next), ("_state", .str "none"), ("_savepoints", .obj μ5.next), ("_statements", .obj μ7.next)]) = μ9 at g9 n9 ⊢
    have hj9 : μ9.cell j = some (.ins 11 [("_store", .obj μ.next), ("_base", .obj μ2.next), ("_state", .str "none"), ("_savepoints", .obj μ5.next), ("_statements", .obj μ7.next)]) := g9.get (by simp)
    simp [startE, wpS, wpT, wpE, wpA, wpI, wpG, wpGs, wpOpt, outs, wipeE, ePar, r5_Session___init__, eDnil]
    rw [se_gen (ins_new hj9 g9.wf) (by simp)]
    have g10 := HW.new (A := [_, _, _, _, _]) (c := .dct (mapK obP [])) g9 rfl
    have g11 := HW.put (A := []) (c' := insS ⟨μ.next, μ2.next, μ5.next, μ7.next, μ9.next, s, s, "none", [], [], []⟩) g10 (by simp [cellB, objBs, objB, Sto.new, insS]; omega)
    refine fin_all g11.wf (by show μ.next ≤ μ9.next + 1; omega) rfl ?_
    exact h1 _ ⟨μ.next, μ2.next, μ5.next, μ7.next, μ9.next, s, s, "none", [], [], []⟩ g11 rfl (by show μ.next ≤ μ9.next + 1; omega)
  · exact h.elim
end M
end

section
set_option Elab.async false
set_option linter.all false
set_option maxRecDepth 100000
set_option maxHeartbeats 4000000
set_option autoImplicit false
/-! what the law's own helpers do. -/
namespace M
open PySem PySem.Spec PyProof.Rows L2
open SX (S S_len S_cat)
def sp__law_cell : Spec := fun ds μ Q _ => match ds with
  | [d, .int k] => 0 ≤ k ∧ ∃ ns : List Int, asSeq d μ = some (ns.map .int) ∧ ∀ i : Int, Q (.int i) μ
  | _ => False
def sp__law_row : Spec := fun ds μ Q _ => match ds with
  | [.int _, .int n] => 0 ≤ n ∧ n ≤ 1000 ∧ ∀ ns : List Int, ns.length = n.toNat → (∀ x ∈ ns, 0 ≤ x ∧ x < 840) → Q (.lst (ns.map .int)) μ
  | _ => False
def sp__law_name : Spec := fun ds μ Q _ => match ds with
  | [.int _] => ∀ l, isName l = true → Q (strD l) μ
  | _ => False
def sp__law_text : Spec := fun ds μ Q _ => match ds with
  | [.int _] => ∀ l, isText l = true → Q (strD l) μ
  | _ => False
def valOk (d : D) : Prop := (∃ l, isText l = true ∧ d = strD l) ∨ ∃ i : Int, -2147483648 ≤ i ∧ i ≤ 2147483647 ∧ d = .int i
def sp__law_value : Spec := fun ds μ Q _ => match ds with
  | [.int _] => ∀ d, valOk d → Q d μ
  | _ => False
/-- a term, when u parameters are in use -/
def termOk (u : Int) (d : D) : Prop := (∃ m : Int, 1 ≤ m ∧ m ≤ u + 1 ∧ m ≤ 4 ∧ d = parD m) ∨ (∃ l, isText l = true ∧ d = txtD l) ∨ ∃ i : Int, -2147483648 ≤ i ∧ i ≤ 2147483647 ∧ d = .int i
def sp__law_term : Spec := fun ds μ Q _ => match ds with
  | [.int _, .int u] => 0 ≤ u ∧ u ≤ 4 ∧ ∀ d, termOk u d → Q d μ
  | _ => False
def okItemT (d : D) : Bool := match d with
  | .str _ | .int _ => true
  | .tup [.str _, .int _] => true
  | .tup [.str k, .str _] => decide (k ≠ "parameter")
  | _ => false
def sp__law_used : Spec := fun ds μ Q _ => match ds with
  | [d] => ∃ xs, asSeq d μ = some xs ∧ xs.length + 1 < sizeLine ∧ xs.all okItemT = true ∧ Q (.int (maxI 0 (0 :: parNs xs))) μ
  | _ => False
/-- a word of the forms, as signs -/
def wordOk (l : List Nat) : Bool := decide (1 ≤ l.length) && decide (l.length ≤ 8) && l.all fun c => decide (c ∈ lettersL)
/-- a valid statement -/
def stmtOk (ds : List D) : Prop := (∃ w, isName w = true ∧ formOk w 0 = true ∧ ds = [strD w]) ∨
  ∃ w n ts, isName w = true ∧ isName n = true ∧ ts.length ≤ 2 ∧ formOk w (ts.length + 1) = true ∧ (∀ t ∈ ts, termOk 3 t) ∧ (∀ m : Int, 1 ≤ m → m ≤ maxI 0 (parNs ts) → m ∈ parNs ts) ∧ ds = strD w :: strD n :: ts
def sp__law_statement : Spec := fun ds μ Q _ => match ds with
  | [.lst row, .lst names] => ∃ ns : List Int, row = ns.map .int ∧ ns.length = 6 ∧ (∀ x ∈ ns, 0 ≤ x ∧ x < 840) ∧ names ≠ [] ∧ names.length < 1000 ∧ (∀ x ∈ names, ∃ l, isName l = true ∧ x = strD l) ∧ ∀ ds, stmtOk ds → Q (.tup ds) μ
  | _ => False
/-- an item as it is written -/
def numT (i : Int) : List Nat := (Str.ofString (toString i)).cps.toList
def tok (d : D) : List Nat := match d with
  | .str s => s.cps.toList
  | .int i => numT i
  | .tup [.str k, .str x] => if k = "text" then 39 :: (x.cps.toList ++ [39]) else []
  | .tup [.str k, .int n] => if k = "text" then [] else 36 :: numT n
  | _ => []
def written (ds : List D) : List Nat := TL.joinL [32] (ds.map tok)
/-- items that are written -/
def wrOk (d : D) : Prop := (∃ l, d = strD l) ∨ (∃ i : Int, i.natAbs < 2 ^ 40 ∧ d = .int i) ∨ (∃ l, d = txtD l) ∨ ∃ n : Int, n.natAbs < 2 ^ 40 ∧ d = parD n
def sp__law_written : Spec := fun ds μ Q _ => match ds with
  | [.tup xs] => xs.length ≤ 10 ∧ (∀ x ∈ xs, wrOk x ∧ (tok x).length ≤ 1000) ∧ Q (strD (written xs)) μ
  | _ => False
def listed (d : D) : D := match d with
  | .tup xs => .lst xs
  | d => d
def sp__law_listed : Spec := fun ds μ Q _ => match ds with
  | [.tup xs] => xs.length ≤ 10 ∧ (∀ x ∈ xs, wrOk x) ∧ Q (.lst (xs.map listed)) μ
  | _ => False
def sp_law : Spec := fun ds μ Q _ => match ds with
  | [.scr xs] => ∃ ns : List Int, xs = ns.map .int ∧ Q (.bl true) μ
  | _ => False
end M
end

section
set_option Elab.async false
set_option linter.all false
set_option maxRecDepth 100000
set_option maxHeartbeats 4000000
set_option autoImplicit false
namespace M
open PySem PySem.Spec PyProof.Rows L2
def N__law_cell : List Str := ["_law_script", "_law_k"]
def c__law_cell : IR := .seq (.ifS (.cmp .Lt (.var 1) (.cal "len" spLen (.cons (.var 0) .nil))) (.seq (.ret (.ix (.var 0) (.var 1))) (.nil)) (.nil)) (.seq (.ret (.con (.int 0))) (.nil))
def N__law_row : List Str := ["_law_cell_here", "_law_count", "_law_row_here", "_law_rest", "_law_seed", "_law_k"]
def b1__law_row : IR := .seq (.ifS (.cmp .GtE (.var 0) (.bin .Pow (.con (.int 10)) (.con (.int 18)))) (.seq (.exp (.bme "list" "list.append" "append" spApp (.var 2) (.cons (.bin .Mod (.cal "int" spInt (.cons (.var 3) .nil)) (.con (.int 840))) .nil))) (.seq (.asg (.gN 3) (.bin .FloorDiv (.var 3) (.con (.int 840)))) (.nil))) (.seq (.asg (.gN 4) (.bin .Mod (.cal "int" spInt (.cons (.bin .Add (.bin .Mult (.var 4) (.con (.int 48271))) (.var 5)) .nil)) (.con (.int 2147483647)))) (.seq (.exp (.bme "list" "list.append" "append" spApp (.var 2) (.cons (.bin .Mod (.bin .FloorDiv (.bin .Mod (.cal "int" spInt (.cons (.bin .Mult (.var 4) (.con (.int 69621))) .nil)) (.con (.int 2147483629))) (.con (.int 7))) (.con (.int 840))) .nil))) (.nil)))) (.nil)
def c__law_row : IR := .seq (.asg (.gN 2) (.lstM (.nil))) (.seq (.asg (.gN 3) (.var 0)) (.seq (.asg (.gN 4) (.bin .Add (.bin .Mod (.cal "int" spInt (.cons (.var 0) .nil)) (.con (.int 2147483629))) (.con (.int 1)))) (.seq (.fr (.gN 5) (.itR1 (.var 1)) b1__law_row) (.seq (.ret (.frz (.var 2))) (.nil)))))
def N__law_name : List Str := ["_law_number", "_law_letters", "_law_k"]
def c__law_name : IR := .seq (.asg (.gN 1) (.con (.str "abcdefghijklmnopqrstuvwxyz"))) (.seq (.ret (.bme "str" "str.join" "join" spJoin (.con (.str "")) (.cons (.cpr [("_law_k", 2)] (.gN 2) (.itR1 (.bin .Add (.con (.int 1)) (.bin .Mod (.var 0) (.con (.int 8))))) (.nop) (.ix (.var 1) (.bin .Mod (.bin .FloorDiv (.var 0) (.bin .Add (.con (.int 1)) (.bin .Mult (.con (.int 3)) (.var 2)))) (.con (.int 26))))) .nil))) (.nil))
def N__law_text : List Str := ["_law_number", "_law_signs", "_law_texts", "_law_count", "_law_k"]
def c__law_text : IR := .seq (.asg (.gN 1) (.bin .Add (.con (.str " !#$&()*+,-./0123456789:;<=>?@ABCDEFGHIJKLMNOPQRSTUVWXYZ[\\]^_`abcdefghijklmnopqrstuvwxyz{|}~")) (.con (.str "\"")))) (.seq (.asg (.gN 2) (.lstC (.cons (.con (.str "")) (.cons (.con (.str " ")) (.cons (.con (.str "a b")) (.cons (.con (.str "it")) (.cons (.con (.str "$1")) (.cons (.con (.str "-5")) (.cons (.con (.str "~!#")) (.cons (.bin .Mult (.con (.str "x")) (.con (.int 40))) (.cons (.con (.str "Ab 9")) (.cons (.con (.str "  ")) (.cons (.con (.str "7")) (.cons (.con (.str "put")) .nil)))))))))))))) (.seq (.ifS (.cmp .Eq (.bin .Mod (.var 0) (.con (.int 3))) (.con (.int 0))) (.seq (.asg (.gN 3) (.bin .Add (.con (.int 1)) (.bin .Mod (.bin .FloorDiv (.var 0) (.con (.int 3))) (.con (.int 40))))) (.seq (.ret (.bme "str" "str.join" "join" spJoin (.con (.str "")) (.cons (.cpr [("_law_k", 4)] (.gN 4) (.itR1 (.var 3)) (.nop) (.ix (.var 1) (.bin .Mod (.bin .Add (.bin .Mult (.con (.int 7)) (.bin .FloorDiv (.var 0) (.con (.int 3)))) (.bin .Mult (.var 4) (.bin .Add (.con (.int 1)) (.bin .Mod (.var 0) (.con (.int 5)))))) (.con (.int 93))))) .nil))) (.nil))) (.nil)) (.seq (.ifS (.cmp .Eq (.bin .Mod (.var 0) (.con (.int 13))) (.con (.int 12))) (.seq (.ret (.cal "_law_name" sp__law_name (.cons (.bin .FloorDiv (.var 0) (.con (.int 13))) .nil))) (.nil)) (.nil)) (.seq (.ret (.ix (.var 2) (.bin .Mod (.bin .Mod (.var 0) (.con (.int 13))) (.con (.int 12))))) (.nil)))))
def N__law_value : List Str := ["_law_number"]
def c__law_value : IR := .seq (.ifS (.cmp .Lt (.bin .Mod (.var 0) (.con (.int 5))) (.con (.int 2))) (.seq (.ret (.bin .Sub (.bin .Mod (.bin .FloorDiv (.var 0) (.con (.int 5))) (.con (.int 7))) (.con (.int 3)))) (.nil)) (.nil)) (.seq (.ifS (.cmp .Eq (.bin .Mod (.var 0) (.con (.int 5))) (.con (.int 2))) (.seq (.ret (.bin .Sub (.bin .Mod (.bin .Add (.bin .Mult (.bin .Mult (.var 0) (.con (.int 5113))) (.con (.int 40503))) (.con (.int 12345))) (.con (.int 4294967296))) (.con (.int 2147483648)))) (.nil)) (.nil)) (.seq (.ifS (.cmp .Eq (.bin .Mod (.var 0) (.con (.int 5))) (.con (.int 3))) (.seq (.ret (.ix (.lstC (.cons (.con (.int 2147483647)) (.cons (.neg (.con (.int 2147483648))) (.cons (.con (.int 1000000)) (.cons (.con (.int 0)) (.cons (.con (.int 255)) (.cons (.con (.int 256)) (.cons (.neg (.con (.int 1))) .nil)))))))) (.bin .Mod (.bin .FloorDiv (.var 0) (.con (.int 5))) (.con (.int 7))))) (.nil)) (.nil)) (.seq (.ret (.cal "_law_text" sp__law_text (.cons (.bin .FloorDiv (.var 0) (.con (.int 5))) .nil))) (.nil))))
def N__law_term : List Str := ["_law_number", "_law_used_here", "_law_value_here"]
def c__law_term : IR := .seq (.ifS (.tAnd (.cmp .Eq (.bin .Mod (.var 0) (.con (.int 7))) (.con (.int 0))) (.tOne (.cmp .Lt (.var 1) (.con (.int 4))))) (.seq (.ret (.tupC (.cons (.con (.str "parameter")) (.cons (.bin .Add (.var 1) (.con (.int 1))) .nil)))) (.nil)) (.nil)) (.seq (.ifS (.tAnd (.cmp .Eq (.bin .Mod (.var 0) (.con (.int 7))) (.con (.int 1))) (.tOne (.cmp .Gt (.var 1) (.con (.int 0))))) (.seq (.ret (.tupC (.cons (.con (.str "parameter")) (.cons (.bin .Add (.con (.int 1)) (.bin .Mod (.bin .FloorDiv (.var 0) (.con (.int 7))) (.var 1))) .nil)))) (.nil)) (.nil)) (.seq (.asg (.gN 2) (.cal "_law_value" sp__law_value (.cons (.bin .FloorDiv (.var 0) (.con (.int 7))) .nil))) (.seq (.ifS (.tV (.cal "isinstance" spIsi (.cons (.var 2) (.cons (.bty "str") .nil)))) (.seq (.ret (.tupC (.cons (.con (.str "text")) (.cons (.var 2) .nil)))) (.nil)) (.nil)) (.seq (.ret (.var 2)) (.nil)))))
def N__law_used : List Str := ["_law_parts", "_law_numbers", "_law_part"]
def c__law_used : IR := .seq (.asc 1 (.cpr [("_law_part", 2)] (.gN 2) (.itV (.var 0)) (.tAnd (.tV (.cal "isinstance" spIsi (.cons (.var 2) (.cons (.bty "tuple") .nil)))) (.tOne (.cmp .Eq (.ix (.var 2) (.con (.int 0))) (.con (.str "parameter"))))) (.ix (.var 2) (.con (.int 1))))) (.seq (.ret (.cal "max" spMax (.cons (.bin .Add (.lstC (.cons (.con (.int 0)) .nil)) (.var 1)) .nil))) (.nil))
def N__law_statement : List Str := ["_law_row_here", "_law_names", "_law_words", "_law_word", "_law_parts", "_law_count", "_law_k"]
def b1__law_statement : IR := .seq (.exp (.bme "list" "list.append" "append" spApp (.var 4) (.cons (.cal "_law_term" sp__law_term (.cons (.bin .Add (.ix (.var 0) (.bin .Add (.con (.int 3)) (.var 6))) (.bin .Mult (.con (.int 840)) (.ix (.var 0) (.bin .Sub (.con (.int 5)) (.bin .Mult (.con (.int 3)) (.var 6)))))) (.cons (.cal "_law_used" sp__law_used (.cons (.var 4) .nil)) .nil))) .nil))) (.nil)
def r8__law_statement : IR := .seq (.ret (.cal "tuple" spTup (.cons (.var 4) .nil))) (.nil)
def r7__law_statement : IR := .seq (.fr (.gN 6) (.itR1 (.var 5)) b1__law_statement) r8__law_statement
def r6__law_statement : IR := .seq (.ifS (.tAnd (.cmp .Eq (.var 5) (.con (.int 2))) (.tOne (.cmp .Eq (.bin .Mod (.ix (.var 0) (.con (.int 5))) (.con (.int 3))) (.con (.int 0))))) (.seq (.ret (.tupC (.cons (.var 3) (.cons (.ix (.var 4) (.con (.int 1))) (.cons (.tupC (.cons (.con (.str "parameter")) (.cons (.con (.int 2)) .nil))) (.cons (.tupC (.cons (.con (.str "parameter")) (.cons (.con (.int 1)) .nil))) .nil)))))) (.nil)) (.nil)) r7__law_statement
def r5__law_statement : IR := .seq (.asg (.gN 5) (.bme "dict" "dict.get" "get" spDget (.nod (fDsp ["put", "get", "delete", "scan"]) (eDsp ["put", "get", "delete", "scan"]) (.cons (.con (.int 2)) (.cons (.con (.int 1)) (.cons (.con (.int 1)) (.cons (.bin .Mult (.con (.int 2)) (.bin .Mod (.ix (.var 0) (.con (.int 2))) (.con (.int 2)))) .nil))))) (.cons (.var 3) (.cons (.con (.int 0)) .nil)))) r6__law_statement
def r4__law_statement : IR := .seq (.asg (.gN 4) (.lstM (.cons (.var 3) (.cons (.ix (.var 1) (.bin .Mod (.ix (.var 0) (.con (.int 1))) (.cal "len" spLen (.cons (.var 1) .nil)))) .nil)))) r5__law_statement
def r3__law_statement : IR := .seq (.ifS (.cmp .In (.var 3) (.lstC (.cons (.con (.str "begin")) (.cons (.con (.str "commit")) (.cons (.con (.str "rollback")) .nil))))) (.seq (.ret (.tupC (.cons (.var 3) .nil))) (.nil)) (.nil)) r4__law_statement
def r2__law_statement : IR := .seq (.asg (.gN 3) (.ix (.var 2) (.bin .Mod (.ix (.var 0) (.con (.int 0))) (.cal "len" spLen (.cons (.var 2) .nil))))) r3__law_statement
def r1__law_statement : IR := .seq (.asg (.gN 2) (.bin .Add (.var 2) (.lstC (.cons (.con (.str "rollback")) (.cons (.con (.str "drop")) (.cons (.con (.str "create")) (.cons (.con (.str "put")) (.cons (.con (.str "begin")) (.cons (.con (.str "save")) (.cons (.con (.str "undo")) (.cons (.con (.str "scan")) .nil))))))))))) r2__law_statement
def c__law_statement : IR := .seq (.asg (.gN 2) (.lstC (.cons (.con (.str "create")) (.cons (.con (.str "put")) (.cons (.con (.str "put")) (.cons (.con (.str "scan")) (.cons (.con (.str "begin")) (.cons (.con (.str "commit")) (.cons (.con (.str "put")) (.cons (.con (.str "get")) (.cons (.con (.str "delete")) (.cons (.con (.str "total")) (.cons (.con (.str "scan")) (.cons (.con (.str "save")) (.cons (.con (.str "undo")) .nil))))))))))))))) r1__law_statement
def N__law_written : List Str := ["_law_parts", "_law_words", "_law_part"]
def b1__law_written : IR := .seq (.ifS (.tV (.cal "isinstance" spIsi (.cons (.var 2) (.cons (.bty "str") .nil)))) (.seq (.exp (.bme "list" "list.append" "append" spApp (.var 1) (.cons (.var 2) .nil))) (.nil)) (.seq (.ifS (.tV (.cal "isinstance" spIsi (.cons (.var 2) (.cons (.bty "int") .nil)))) (.seq (.exp (.bme "list" "list.append" "append" spApp (.var 1) (.cons (.cal "str" spStr (.cons (.var 2) .nil)) .nil))) (.nil)) (.seq (.ifS (.cmp .Eq (.ix (.var 2) (.con (.int 0))) (.con (.str "text"))) (.seq (.exp (.bme "list" "list.append" "append" spApp (.var 1) (.cons (.bin .Add (.bin .Add (.con (.str "'")) (.ix (.var 2) (.con (.int 1)))) (.con (.str "'"))) .nil))) (.nil)) (.seq (.exp (.bme "list" "list.append" "append" spApp (.var 1) (.cons (.bin .Add (.con (.str "$")) (.cal "str" spStr (.cons (.ix (.var 2) (.con (.int 1))) .nil))) .nil))) (.nil))) (.nil))) (.nil))) (.nil)
def c__law_written : IR := .seq (.asg (.gN 1) (.lstM (.nil))) (.seq (.fr (.gN 2) (.itV (.var 0)) b1__law_written) (.seq (.ret (.bme "str" "str.join" "join" spJoin (.con (.str " ")) (.cons (.var 1) .nil))) (.nil)))
def N__law_listed : List Str := ["_law_parts", "_law_made", "_law_part"]
def b1__law_listed : IR := .seq (.exp (.bme "list" "list.append" "append" spApp (.var 1) (.cons (.var 2) .nil))) (.seq (.ifS (.tV (.cal "isinstance" spIsi (.cons (.var 2) (.cons (.bty "tuple") .nil)))) (.seq (.asg (.gSub (.var 1) (.neg (.con (.int 1)))) (.cal "list" spLst (.cons (.var 2) .nil))) (.nil)) (.nil)) (.nil))
def c__law_listed : IR := .seq (.asg (.gN 1) (.lstM (.nil))) (.seq (.fr (.gN 2) (.itV (.var 0)) b1__law_listed) (.seq (.ret (.frz (.var 1))) (.nil)))
def N_law : List Str := ["_law_script", "_law_cell_here", "_law_row_here", "_law_words", "_law_parts", "_law_told", "_law_one"]
def q6b1_law : IR := .seq (.ifS (.cmp .NotEq (.cal "parameters" sp_parameters (.cons (.cal "_law_listed" sp__law_listed (.cons (.var 5) .nil)) .nil)) (.cal "_law_used" sp__law_used (.cons (.var 4) .nil))) (.seq (.ret (.con (.bl false))) (.nil)) (.nil)) (.nil)
def q5b1_law : IR := .seq (.ifS (.tOr (.cmp .NotEq (.cal "parameters" sp_parameters (.cons (.var 5) .nil)) (.cal "_law_used" sp__law_used (.cons (.var 4) .nil))) (.tOne (.tV (.cal "isinstance" spIsi (.cons (.cal "parameters" sp_parameters (.cons (.var 5) .nil)) (.cons (.bty "bool") .nil)))))) (.seq (.ret (.con (.bl false))) (.nil)) (.nil)) q6b1_law
def q4b1_law : IR := .seq (.ifS (.tOr (.tNot (.tV (.cal "isinstance" spIsi (.cons (.var 5) (.cons (.bty "tuple") .nil))))) (.tOr (.cmp .NotEq (.var 5) (.var 4)) (.tOne (.cmp .Gt (.cal "len" spLen (.cons (.cpr [("_law_one", 6)] (.gN 6) (.itV (.var 5)) (.tV (.cal "isinstance" spIsi (.cons (.var 6) (.cons (.bty "bool") .nil)))) (.var 6)) .nil)) (.con (.int 0)))))) (.seq (.ret (.con (.bl false))) (.nil)) (.nil)) q5b1_law
def q3b1_law : IR := .seq (.asg (.gN 5) (.cal "parse_statement" sp_parse_statement (.cons (.cal "_law_written" sp__law_written (.cons (.var 4) .nil)) .nil))) q4b1_law
def q2b1_law : IR := .seq (.asg (.gN 4) (.cal "_law_statement" sp__law_statement (.cons (.sl (.var 2) (.nop) (.con (.int 6))) (.cons (.lstC (.cons (.cal "_law_name" sp__law_name (.cons (.ix (.var 2) (.con (.int 6))) .nil)) (.cons (.cal "_law_name" sp__law_name (.cons (.bin .Add (.ix (.var 2) (.con (.int 7))) (.bin .Mult (.con (.int 840)) (.bin .Mod (.ix (.var 2) (.con (.int 8))) (.con (.int 5))))) .nil)) (.cons (.ix (.var 3) (.bin .Mod (.ix (.var 2) (.con (.int 9))) (.con (.int 12)))) .nil)))) .nil)))) q3b1_law
def q1b1_law : IR := .seq (.asg (.gN 3) (.lstC (.cons (.con (.str "create")) (.cons (.con (.str "drop")) (.cons (.con (.str "put")) (.cons (.con (.str "delete")) (.cons (.con (.str "get")) (.cons (.con (.str "scan")) (.cons (.con (.str "total")) (.cons (.con (.str "begin")) (.cons (.con (.str "commit")) (.cons (.con (.str "rollback")) (.cons (.con (.str "save")) (.cons (.con (.str "undo")) .nil)))))))))))))) q2b1_law
def b1_law : IR := .seq (.asg (.gN 2) (.cal "_law_row" sp__law_row (.cons (.var 1) (.cons (.con (.int 10)) .nil)))) q1b1_law
def r1_law : IR := .seq (.ret (.con (.bl true))) (.nil)
def c_law : IR := .seq (.fr (.gN 1) (.itV (.bin .Add (.lstC (.cons (.cal "_law_cell" sp__law_cell (.cons (.var 0) (.cons (.con (.int 0)) .nil))) (.cons (.cal "_law_cell" sp__law_cell (.cons (.var 0) (.cons (.con (.int 1)) .nil))) .nil))) (.sl (.var 0) (.con (.int 2)) (.con (.int 20))))) b1_law) r1_law
end M
end

section
set_option Elab.async false
set_option linter.all false
set_option maxRecDepth 100000
set_option maxHeartbeats 4000000
set_option autoImplicit false
namespace M
open PySem PySem.Spec PyProof.Rows L2
open SX (S S_len S_cat)
theorem objBs_mapW {α : Type} (n : Nat) (f : α → D) (hf : ∀ a, objB n (f a) = true) : ∀ xs : List α, objBs n (xs.map f) = true
  | [] => rfl
  | x :: xs => by
    show (objB n (f x) && objBs n (xs.map f)) = true
    rw [hf, objBs_mapW n f hf xs]
    rfl
theorem atI_map {α β : Type} (f : α → β) (l : List α) (i : Int) : atI (l.map f) i = (atI l i).map f := by
  unfold atI
  rw [List.length_map]
  cases ixN l.length i with
  | none => rfl
  | some j => simp
theorem cpow_10_18 : CPow 10 18 := by unfold CPow; decide
theorem cdiv_small {a b : Int} (h : 0 < b) (h2 : b < 1073741824) : CDivN a b := by
  unfold CDivN
  first | omega | (constructor <;> omega)
theorem cmul_r {a b : Int} (h : 0 ≤ b) (h2 : b < 1073741824) : CMul a b := by
  unfold CMul
  first | omega | (right; omega)
theorem w__law_cell : ∀ ds μ Q QX, μ.wf → objBs μ.next ds = true → sp__law_cell ds μ Q QX → ds.length = 2 ∧ wpS c__law_cell (startE N__law_cell ds) μ (outs μ.next Q QX) := by
  intro ds μ Q QX hw ho h
  unfold sp__law_cell at h
  split at h
  · rename_i d k
    refine ⟨rfl, ?_⟩
    obtain ⟨h0, ns, h1, h2⟩ := h
    have hq : ∀ i : Int, finP μ.next Q (.int i) μ := fun i => fin_same hw rfl (h2 i)
    have hd : ∀ x, d ≠ .str x := fun x e => by rw [e] at h1; cases h1
    obtain ⟨j, rfl⟩ := Int.eq_ofNat_of_zero_le h0
    simp [startE, wpS, wpT, wpE, wpA, wpI, wpG, wpGs, wpOpt, spLen, spIsi, spInt, spStr, spTup, spLst, spMax, spApp, spFind, spSplit, spJoin, spDget, tn_str, tn_int, tn_bl, tn_non, tn_tup, tn_lst, tn_scr, td_str, td_lst, isB, tys, truD, cmpD, binD, slD, ixD, outs, eAllS, eAllN, eMaxD, eGin, eGinT, eGix, eRse, eCal0, drf, sq_tup, sq_lst, sq_scr, sq_str, sq_int, sq_non, l_lst, l_scr, l_tup, lm_lst, lm_str, lm_int, lm_tup, lm_non, lm_bl, eqOk_str, eqOk_int, eqOk_non, deq_int, deq_str, two_le, isNonD, tysOf, c__law_cell, N__law_cell, h1]
    cases d with
    | str x => exact (hd x rfl).elim
    | _ =>
      try simp only [h1]
      by_cases hk : j < ns.length
      · rw [if_pos (by simpa using hk), atI_nat', List.getElem?_map, List.getElem?_eq_getElem hk]
        exact hq _
      · rw [if_neg (by simpa using hk)]
        exact hq 0
  · exact h.elim
theorem w__law_row : ∀ ds μ Q QX, μ.wf → objBs μ.next ds = true → sp__law_row ds μ Q QX → ds.length = 2 ∧ wpS c__law_row (startE N__law_row ds) μ (outs μ.next Q QX) := by
  intro ds μ Q QX hw ho h
  unfold sp__law_row at h
  split at h
  · rename_i c n
    refine ⟨rfl, ?_⟩
    obtain ⟨h0, h00, h1⟩ := h
    simp [startE, wpS, wpT, wpE, wpA, wpI, wpG, wpGs, wpOpt, spLen, spIsi, spInt, spStr, spTup, spLst, spMax, spApp, spFind, spSplit, spJoin, spDget, tn_str, tn_int, tn_bl, tn_non, tn_tup, tn_lst, tn_scr, td_str, td_lst, isB, tys, truD, cmpD, binD, slD, ixD, outs, eAllS, eAllN, eMaxD, eGin, eGinT, eGix, eRse, eCal0, drf, sq_tup, sq_lst, sq_scr, sq_str, sq_int, sq_non, l_lst, l_scr, l_tup, lm_lst, lm_str, lm_int, lm_tup, lm_non, lm_bl, eqOk_str, eqOk_int, eqOk_non, deq_int, deq_str, two_le, isNonD, tysOf, c__law_row, N__law_row]
    refine ⟨by omega, by omega, ?_⟩
    refine for_gen (fun i δ μ' => ∃ (ns : List Int) (r s : Int) (o : Option D), δ = [some (.int c), some (.int n), some (.obj μ.next), some (.int r), some (.int s), o] ∧ μ.Part μ' ∧ μ'.cell μ.next = some (.lst (ns.map .int)) ∧ ns.length = i ∧ (∀ x ∈ ns, 0 ≤ x ∧ x < 840) ∧ 0 ≤ s ∧ s < 2147483648)
      ⟨[], _, _, _, rfl, part_mk hw (part_self hw), Sto.new_same, rfl, (fun _ z => by cases z), ?_, ?_⟩ ?_ ?_
    · have := fmod_lt (a := c) (b := 2147483629) (by omega)
      omega
    · have := fmod_lt (a := c) (b := 2147483629) (by omega)
      omega
    · rintro i x LW hx hLW δ μ' ⟨ns, r, s, o, rfl, q1, q2, q3, q4, q5, q6⟩
      obtain ⟨hi, rfl⟩ := intsD_at hx
      have hz : ns.length < sizeLine := by rw [sizeLine_eq]; omega
      have next : ∀ (y r s o), 0 ≤ y → y < 840 → 0 ≤ s → s < 2147483648 → LW [some (.int c), some (.int n), some (.obj μ.next), some (.int r), some (.int s), o] (μ'.put μ.next (.lst (ns.map .int ++ [.int y]))) := fun y r s o h1 h2 h3 h4 =>
        hLW _ _ ⟨ns ++ [y], r, s, o, rfl, part_put hw q1 (Nat.le_refl _), by rw [Sto.put_same]; simp, by simp [q3], fun x hx => by
          rcases List.mem_append.mp hx with z | z
          · exact q4 x z
          · rw [List.mem_singleton] at z
            subst z
            exact ⟨h1, h2⟩, h3, h4⟩
      refine ⟨trivial, ?_⟩
      simp [startE, wpS, wpT, wpE, wpA, wpI, wpG, wpGs, wpOpt, spLen, spIsi, spInt, spStr, spTup, spLst, spMax, spApp, spFind, spSplit, spJoin, spDget, tn_str, tn_int, tn_bl, tn_non, tn_tup, tn_lst, tn_scr, td_str, td_lst, isB, tys, truD, cmpD, binD, slD, ixD, outs, eAllS, eAllN, eMaxD, eGin, eGinT, eGix, eRse, eCal0, drf, sq_tup, sq_lst, sq_scr, sq_str, sq_int, sq_non, l_lst, l_scr, l_tup, lm_lst, lm_str, lm_int, lm_tup, lm_non, lm_bl, eqOk_str, eqOk_int, eqOk_non, deq_int, deq_str, two_le, isNonD, tysOf, b1__law_row, td_obj q2, q2, hz]
      have m1 : ∀ a : Int, 0 ≤ a.fmod 840 ∧ a.fmod 840 < 840 := fun a => fmod_lt (by omega)
      have m2 : ∀ a : Int, 0 ≤ a.fmod 2147483647 ∧ a.fmod 2147483647 < 2147483647 := fun a => fmod_lt (by omega)
      refine ⟨cpow_10_18, ?_⟩
      split
      · exact ⟨cdiv_small (by omega) (by omega), next _ _ _ _ (m1 _).1 (m1 _).2 q5 q6⟩
      · exact ⟨cmul_r (by omega) (by omega), cmul_r (by omega) (by omega), cdiv_small (by omega) (by omega), next _ _ _ _ (m1 _).1 (m1 _).2 (m2 _).1 (by have := (m2 (s * 48271 + i)).2; omega)⟩
    · rintro δ μ' ⟨ns, r, s, o, rfl, q1, q2, q3, q4, q5, q6⟩
      refine ⟨trivial, ?_⟩
      rw [intsD_len] at q3
      simp [q2]
      exact fin_part (part_del hw q1 (Nat.le_refl _)) (objBs_mapW _ _ (fun _ => rfl) _) (h1 ns q3 q4)
  · exact h.elim
end M
end

section
set_option Elab.async false
set_option linter.all false
set_option maxRecDepth 100000
set_option maxHeartbeats 4000000
set_option autoImplicit false
namespace M
open PySem PySem.Spec PyProof.Rows L2
open SX (S S_len S_cat)
theorem join_nil : ∀ ls : List (List Nat), TL.joinL [] ls = ls.flatten
  | [] => rfl
  | [p] => by simp [TL.joinL]
  | p :: q :: r => by
    show p ++ ([] ++ TL.joinL [] (q :: r)) = _
    rw [join_nil (q :: r)]
    simp
theorem join_signs (cs : List Nat) : Txt.join (S []) (cs.map fun c => S [c]) = S cs := by
  have e : (cs.map fun c => S [c]) = (cs.map fun c => [c]).map S := by rw [List.map_map]; rfl
  rw [e, SX.join_S, join_nil]
  congr 2
  induction cs with
  | nil => rfl
  | cons c cs ih => simp [ih]
theorem sum_ones (cs : List Nat) : ((cs.map fun c => S [c]).map (·.length)).sum = cs.length := by
  induction cs with
  | nil => rfl
  | cons c cs ih =>
    rw [List.map_cons, List.map_cons, List.sum_cons, ih, S_len, List.length_cons]
    simp
    omega
theorem fm_some {α β : Type} {f : α → Option β} {g : α → β} : ∀ {xs : List α}, (∀ x ∈ xs, f x = some (g x)) → xs.filterMap f = xs.map g
  | [], _ => rfl
  | x :: xs, h => by rw [List.filterMap_cons, h x List.mem_cons_self, List.map_cons, fm_some fun y hy => h y (List.mem_cons_of_mem _ hy)]
/-- ''.join([l[f(k)] for k in range(n)]) -/
theorem signs_from {l : List Nat} {n : Nat} {f : Nat → Int} (hf : ∀ k, k < n → ∃ c ∈ l, atI l (f k) = some c) : ∃ cs : List Nat, cs.length = n ∧ (∀ c ∈ cs, c ∈ l) ∧ ∀ k, k < n → ∃ c, cs[k]? = some c ∧ atI l (f k) = some c := by
  induction n with
  | zero => exact ⟨[], rfl, (fun _ z => by cases z), fun k hk => by omega⟩
  | succ n ih =>
    obtain ⟨cs, h1, h2, h3⟩ := ih fun k hk => hf k (by omega)
    obtain ⟨c, hc, e⟩ := hf n (by omega)
    refine ⟨cs ++ [c], by simp [h1], fun d hd => ?_, fun k hk => ?_⟩
    · rcases List.mem_append.mp hd with z | z
      · exact h2 d z
      · rw [List.mem_singleton] at z
        rw [z]
        exact hc
    · by_cases hkn : k < n
      · obtain ⟨d, e1, e2⟩ := h3 k hkn
        exact ⟨d, by rw [List.getElem?_append_left (by omega)]; exact e1, e2⟩
      · have : k = n := by omega
        subst this
        exact ⟨c, by rw [List.getElem?_append_right (by omega), h1]; simp, e⟩
theorem atI_in {l : List Nat} {i : Int} (h : 0 ≤ i ∧ i < l.length) : ∃ c ∈ l, atI l i = some c := by
  obtain ⟨k, rfl⟩ := Int.eq_ofNat_of_zero_le h.1
  have hk : k < l.length := by omega
  exact ⟨l[k], List.getElem_mem hk, by rw [atI_nat', List.getElem?_eq_getElem hk]⟩
/-- the comprehension of these signs -/
theorem loop_signs {turn : D → Sto → (Option D → Sto → Prop) → Prop} {gd : Sto → Prop} {fin : List D → Sto → Prop} {μ : Sto} {n : Nat} {l : List Nat} {f : Nat → Int} (hg : gd μ) (hz : n ≤ sizeLine) (hf : ∀ k, k < n → 0 ≤ f k ∧ f k < l.length)
    (ht : ∀ (k : Nat) (c : Nat) (N : Option D → Sto → Prop), k < n → atI l (f k) = some c → N (some (strD [c])) μ → turn (.int k) μ N) (hfin : ∀ cs : List Nat, cs.length = n → (∀ c ∈ cs, c ∈ l) → fin (cs.map fun c => strD [c]) μ) :
    loopC turn gd fin (intsD 0 n) [] μ := by
  obtain ⟨cs, h1, h2, h3⟩ := signs_from (l := l) (n := n) (f := f) fun k hk => atI_in (hf k hk)
  have e : (intsD 0 n).filterMap (fun x => match x with
      | .int k => (cs[k.toNat]?).map fun c => strD [c]
      | _ => none) = cs.map fun c => strD [c] := by
    rw [fm_some (g := fun x => match x with
      | .int k => strD [cs.getD k.toNat 0]
      | _ => .non) fun x hx => ?_]
    · apply List.ext_getElem?
      intro i
      rw [List.getElem?_map, List.getElem?_map]
      by_cases hi : i < n
      · rw [intsD_get hi]
        have : i < cs.length := by omega
        simp [this, List.getD]
      · rw [List.getElem?_eq_none (by rw [intsD_len]; omega), List.getElem?_eq_none (by omega)]
        rfl
    · obtain ⟨k, hk, rfl⟩ := List.getElem_of_mem hx
      rw [intsD_len] at hk
      have ek := intsD_at (List.getElem?_eq_getElem (by rw [intsD_len]; exact hk) : (intsD 0 n)[k]? = _)
      rw [ek.2]
      have hk2 : (0 + (k : Int)).toNat < cs.length := by omega
      dsimp only
      rw [List.getElem?_eq_getElem hk2, List.getD_eq_getElem?_getD, List.getElem?_eq_getElem hk2]
      rfl
  refine loopC_pure (fun x => match x with
      | .int k => (cs[k.toNat]?).map fun c => strD [c]
      | _ => none) hg (fun x hx N hN => ?_) (by rw [intsD_len]; simpa using hz) (by rw [List.nil_append, e]; exact hfin cs h1 h2)
  obtain ⟨k, hk, rfl⟩ := List.getElem_of_mem hx
  rw [intsD_len] at hk
  have ek := intsD_at (List.getElem?_eq_getElem (by rw [intsD_len]; exact hk) : (intsD 0 n)[k]? = _)
  rw [ek.2] at hN ⊢
  obtain ⟨c, e1, e2⟩ := h3 k hk
  rw [show (0 + (k : Int)) = k by omega] at hN ⊢
  refine ht k c N hk e2 ?_
  dsimp only at hN
  rw [Int.toNat_natCast, e1] at hN
  exact hN
theorem cmul_l {a b : Int} (h : 0 ≤ a) (h2 : a < 1073741824) : CMul a b := by
  unfold CMul
  left
  omega
theorem w__law_name : ∀ ds μ Q QX, μ.wf → objBs μ.next ds = true → sp__law_name ds μ Q QX → ds.length = 1 ∧ wpS c__law_name (startE N__law_name ds) μ (outs μ.next Q QX) := by
  intro ds μ Q QX hw ho h
  unfold sp__law_name at h
  split at h
  · rename_i m
    refine ⟨rfl, ?_⟩
    have hq : ∀ l, isName l = true → finP μ.next Q (strD l) μ := fun l hl => fin_same hw rfl (h l hl)
    have m1 : ∀ a : Int, 0 ≤ a.fmod 26 ∧ a.fmod 26 < 26 := fun a => fmod_lt (by omega)
    have m2 := fmod_lt (a := m) (b := 8) (by omega)
    simp [startE, wpS, wpT, wpE, wpA, wpI, wpG, wpGs, wpOpt, spLen, spIsi, spInt, spStr, spTup, spLst, spMax, spApp, spFind, spSplit, spJoin, spDget, tn_str, tn_int, tn_bl, tn_non, tn_tup, tn_lst, tn_scr, td_str, td_lst, isB, tys, truD, cmpD, binD, slD, ixD, outs, eAllS, eAllN, eMaxD, eGin, eGinT, eGix, eRse, eCal0, drf, sq_tup, sq_lst, sq_scr, sq_str, sq_int, sq_non, l_lst, l_scr, l_tup, lm_lst, lm_str, lm_int, lm_tup, lm_non, lm_bl, eqOk_str, eqOk_int, eqOk_non, deq_int, deq_str, two_le, isNonD, tysOf, c__law_name, N__law_name, wipeE]
    refine ⟨by omega, by omega, ?_⟩
    have hlen : lettersL.length = 26 := by decide +kernel
    refine loop_signs (l := lettersL) (f := fun k => (m.fdiv (1 + 3 * (k : Int))).fmod 26) trivial (by rw [sizeLine_eq]; omega) (fun k hk => by rw [hlen]; exact m1 _) (fun k c N hk he hN => ?_) (fun cs hcs hin => ?_)
    · dsimp only
      refine ⟨cmul_l (by omega) (by omega), cdiv_small (by omega) (by omega), by decide +kernel, ?_⟩
      rw [show (Str.ofString "abcdefghijklmnopqrstuvwxyz").cps.toList = lettersL from rfl, he]
      exact hN
    · refine ⟨cs.map fun c => S [c], by rw [List.map_map]; rfl, ?_, ?_⟩
      · rw [sum_ones, show (Str.ofString "").length = 0 from rfl]
        omega
      · rw [lit_empty, join_signs]
        refine hq cs ?_
        unfold isName
        simp
        refine ⟨⟨by omega, by omega⟩, fun x hx => ?_⟩
        exact hin x hx
  · exact h.elim
def textL : List Nat := ((" !#$&()*+,-./0123456789:;<=>?@ABCDEFGHIJKLMNOPQRSTUVWXYZ[\\]^_`abcdefghijklmnopqrstuvwxyz{|}~" : Str) ++ ("\"" : Str)).cps.toList
theorem textL_ok : ∀ c ∈ textL, c ∈ signsL ∧ c ≠ 39 := by decide +kernel
theorem letters_ok : ∀ c ∈ lettersL, c ∈ signsL ∧ c ≠ 39 := by decide +kernel
theorem isText_name {l : List Nat} (h : isName l = true) : isText l = true := by
  unfold isName at h
  simp at h
  obtain ⟨⟨h1, h2⟩, h3⟩ := h
  unfold isText isStrg
  simp
  exact ⟨⟨⟨by omega, fun x hx => (letters_ok x (h3 x hx)).1⟩, by omega⟩, fun z => (letters_ok 39 (h3 39 z)).2 rfl⟩
theorem atI_all {P : D → Prop} {l : List D} (h : ∀ d ∈ l, P d) {i : Int} (hi : 0 ≤ i ∧ i < l.length) : ∃ d, atI l i = some d ∧ P d := by
  obtain ⟨k, rfl⟩ := Int.eq_ofNat_of_zero_le hi.1
  have hk : k < l.length := by omega
  exact ⟨l[k], by rw [atI_nat', List.getElem?_eq_getElem hk], h _ (List.getElem_mem hk)⟩
theorem texts_ok : ∀ d ∈ [D.str "", D.str " ", D.str "a b", D.str "it", D.str "$1", D.str "-5", D.str "~!#", D.str (repS "x" 40), D.str "Ab 9", D.str "  ", D.str "7", D.str "put"], ∃ l, isText l = true ∧ d = strD l := by
  have mk : ∀ x : Str, isText x.cps.toList = true → ∃ l, isText l = true ∧ D.str x = strD l := fun x h => ⟨x.cps.toList, h, by rw [strD, SX.S_tl]⟩
  intro d hd
  simp only [List.mem_cons, List.not_mem_nil, or_false] at hd
  rcases hd with rfl | rfl | rfl | rfl | rfl | rfl | rfl | rfl | rfl | rfl | rfl | rfl <;> exact mk _ (by decide +kernel)
theorem ints_ok : ∀ d ∈ [D.int 2147483647, D.int (-2147483648), D.int 1000000, D.int 0, D.int 255, D.int 256, D.int (-1)], ∃ i : Int, -2147483648 ≤ i ∧ i ≤ 2147483647 ∧ d = .int i := by
  intro d hd
  simp only [List.mem_cons, List.not_mem_nil, or_false] at hd
  rcases hd with rfl | rfl | rfl | rfl | rfl | rfl | rfl <;> exact ⟨_, by omega, by omega, rfl⟩
theorem w__law_text : ∀ ds μ Q QX, μ.wf → objBs μ.next ds = true → sp__law_text ds μ Q QX → ds.length = 1 ∧ wpS c__law_text (startE N__law_text ds) μ (outs μ.next Q QX) := by
  intro ds μ Q QX hw ho h
  unfold sp__law_text at h
  split at h
  · rename_i m
    refine ⟨rfl, ?_⟩
    have hq : ∀ l, isText l = true → finP μ.next Q (strD l) μ := fun l hl => fin_same hw rfl (h l hl)
    have m1 : ∀ a : Int, 0 ≤ a.fmod 93 ∧ a.fmod 93 < 93 := fun a => fmod_lt (by omega)
    have m2 := fmod_lt (a := (m.fdiv 3)) (b := 40) (by omega)
    have m3 := fmod_lt (a := m) (b := 5) (by omega)
    have m4 : ∀ a : Int, 0 ≤ a.fmod 12 ∧ a.fmod 12 < 12 := fun a => fmod_lt (by omega)
    simp [startE, wpS, wpT, wpE, wpA, wpI, wpG, wpGs, wpOpt, spLen, spIsi, spInt, spStr, spTup, spLst, spMax, spApp, spFind, spSplit, spJoin, spDget, tn_str, tn_int, tn_bl, tn_non, tn_tup, tn_lst, tn_scr, td_str, td_lst, isB, tys, truD, cmpD, binD, slD, ixD, outs, eAllS, eAllN, eMaxD, eGin, eGinT, eGix, eRse, eCal0, drf, sq_tup, sq_lst, sq_scr, sq_str, sq_int, sq_non, l_lst, l_scr, l_tup, lm_lst, lm_str, lm_int, lm_tup, lm_non, lm_bl, eqOk_str, eqOk_int, eqOk_non, deq_int, deq_str, two_le, isNonD, tysOf, c__law_text, N__law_text, wipeE, sp__law_name]
    have hlen : textL.length = 93 := by decide +kernel
    refine ⟨by decide +kernel, by decide +kernel, by rw [sizeLine_eq]; omega, ?_⟩
    split
    · refine ⟨cdiv_small (by omega) (by omega), by omega, by omega, ?_⟩
      refine loop_signs (l := textL) (f := fun k => (7 * m.fdiv 3 + (k : Int) * (1 + m.fmod 5)).fmod 93) trivial (by rw [sizeLine_eq]; omega) (fun k hk => by rw [hlen]; exact m1 _) (fun k c N hk he hN => ?_) (fun cs hcs hin => ?_)
      · dsimp only
        refine ⟨cdiv_small (by omega) (by omega), cmul_l (by omega) (by omega), cmul_r (by omega) (by omega), by decide +kernel, ?_⟩
        rw [show (Str.ofString " !#$&()*+,-./0123456789:;<=>?@ABCDEFGHIJKLMNOPQRSTUVWXYZ[\\]^_`abcdefghijklmnopqrstuvwxyz{|}~" ++ Str.ofString "\"").cps.toList = textL from rfl, he]
        exact hN
      · refine ⟨cs.map fun c => S [c], by rw [List.map_map]; rfl, ?_, ?_⟩
        · rw [sum_ones, show (Str.ofString "").length = 0 from rfl]
          omega
        · rw [lit_empty, join_signs]
          refine hq cs ?_
          have hs : ∀ c ∈ cs, c ∈ signsL ∧ c ≠ 39 := fun c hc => textL_ok c (hin c hc)
          unfold isText isStrg
          simp
          exact ⟨⟨⟨by omega, fun x hx => (hs x hx).1⟩, by omega⟩, fun z => (hs 39 z).2 rfl⟩
    · split
      · exact ⟨cdiv_small (by omega) (by omega), fun l hl => hq l (isText_name hl)⟩
      · obtain ⟨d, e, l, hl, rfl⟩ := atI_all (P := fun d => ∃ l, isText l = true ∧ d = strD l) texts_ok (i := (m.fmod 13).fmod 12) (by have := m4 (m.fmod 13); exact this)
        rw [e]
        exact hq l hl
  · exact h.elim
theorem w__law_value : ∀ ds μ Q QX, μ.wf → objBs μ.next ds = true → sp__law_value ds μ Q QX → ds.length = 1 ∧ wpS c__law_value (startE N__law_value ds) μ (outs μ.next Q QX) := by
  intro ds μ Q QX hw ho h
  unfold sp__law_value at h
  split at h
  · rename_i m
    refine ⟨rfl, ?_⟩
    have hi : ∀ i : Int, -2147483648 ≤ i → i ≤ 2147483647 → finP μ.next Q (.int i) μ := fun i h1 h2 => fin_same hw rfl (h _ (.inr ⟨i, h1, h2, rfl⟩))
    have hq : ∀ l, isText l = true → finP μ.next Q (strD l) μ := fun l hl => fin_same hw rfl (h _ (.inl ⟨l, hl, rfl⟩))
    have m1 : ∀ a : Int, 0 ≤ a.fmod 7 ∧ a.fmod 7 < 7 := fun a => fmod_lt (by omega)
    have m2 : ∀ a : Int, 0 ≤ a.fmod 4294967296 ∧ a.fmod 4294967296 < 4294967296 := fun a => fmod_lt (by omega)
    simp [startE, wpS, wpT, wpE, wpA, wpI, wpG, wpGs, wpOpt, spLen, spIsi, spInt, spStr, spTup, spLst, spMax, spApp, spFind, spSplit, spJoin, spDget, tn_str, tn_int, tn_bl, tn_non, tn_tup, tn_lst, tn_scr, td_str, td_lst, isB, tys, truD, cmpD, binD, slD, ixD, outs, eAllS, eAllN, eMaxD, eGin, eGinT, eGix, eRse, eCal0, drf, sq_tup, sq_lst, sq_scr, sq_str, sq_int, sq_non, l_lst, l_scr, l_tup, lm_lst, lm_str, lm_int, lm_tup, lm_non, lm_bl, eqOk_str, eqOk_int, eqOk_non, deq_int, deq_str, two_le, isNonD, tysOf, c__law_value, N__law_value, sp__law_text]
    split
    · have := m1 (m.fdiv 5)
      exact ⟨cdiv_small (by omega) (by omega), hi _ (by omega) (by omega)⟩
    · split
      · have := m2 (m * 5113 * 40503 + 12345)
        exact ⟨cmul_r (by omega) (by omega), cmul_r (by omega) (by omega), hi _ (by omega) (by omega)⟩
      · split
        · refine ⟨by rw [sizeLine_eq]; omega, cdiv_small (by omega) (by omega), ?_⟩
          obtain ⟨d, e, i, h1, h2, rfl⟩ := atI_all (P := fun d => ∃ i : Int, -2147483648 ≤ i ∧ i ≤ 2147483647 ∧ d = .int i) ints_ok (i := (m.fdiv 5).fmod 7) (m1 _)
          rw [e]
          exact hi i h1 h2
        · exact ⟨cdiv_small (by omega) (by omega), hq⟩
  · exact h.elim
theorem w__law_term : ∀ ds μ Q QX, μ.wf → objBs μ.next ds = true → sp__law_term ds μ Q QX → ds.length = 2 ∧ wpS c__law_term (startE N__law_term ds) μ (outs μ.next Q QX) := by
  intro ds μ Q QX hw ho h
  unfold sp__law_term at h
  split at h
  · rename_i m u
    refine ⟨rfl, ?_⟩
    obtain ⟨h0, h4, h⟩ := h
    have hq : ∀ d, termOk u d → finP μ.next Q d μ := fun d hd => fin_same hw (by
      rcases hd with ⟨m, _, _, _, rfl⟩ | ⟨l, _, rfl⟩ | ⟨i, _, _, rfl⟩ <;> rfl) (h d hd)
    have hpar : ∀ m : Int, 1 ≤ m → m ≤ u + 1 → m ≤ 4 → finP μ.next Q (.tup [.str "parameter", .int m]) μ := fun m h1 h2 h3 => hq _ (.inl ⟨m, h1, h2, h3, rfl⟩)
    simp [startE, wpS, wpT, wpE, wpA, wpI, wpG, wpGs, wpOpt, spLen, spIsi, spInt, spStr, spTup, spLst, spMax, spApp, spFind, spSplit, spJoin, spDget, tn_str, tn_int, tn_bl, tn_non, tn_tup, tn_lst, tn_scr, td_str, td_lst, isB, tys, truD, cmpD, binD, slD, ixD, outs, eAllS, eAllN, eMaxD, eGin, eGinT, eGix, eRse, eCal0, drf, sq_tup, sq_lst, sq_scr, sq_str, sq_int, sq_non, l_lst, l_scr, l_tup, lm_lst, lm_str, lm_int, lm_tup, lm_non, lm_bl, eqOk_str, eqOk_int, eqOk_non, deq_int, deq_str, two_le, isNonD, tysOf, c__law_term, N__law_term, sp__law_value]
    have fin : CDivN m 7 ∧ ∀ d, valOk d → match tyName d μ with
        | some a => if a = "str" then finP μ.next Q (.tup [.str "text", d]) μ else finP μ.next Q d μ
        | none => False := by
      refine ⟨cdiv_small (by omega) (by omega), fun d hd => ?_⟩
      rcases hd with ⟨l, hl, rfl⟩ | ⟨i, h1, h2, rfl⟩
      · exact hq _ (.inr (.inl ⟨l, hl, rfl⟩))
      · exact hq _ (.inr (.inr ⟨i, h1, h2, rfl⟩))
    have p2 : 0 < u → CDivN m 7 ∧ ¬u = 0 ∧ finP μ.next Q (.tup [.str "parameter", .int (1 + (m.fdiv 7).fmod u)]) μ := fun hu => by
      have := fmod_lt (a := m.fdiv 7) hu
      exact ⟨cdiv_small (by omega) (by omega), by omega, hpar _ (by omega) (by omega) (by omega)⟩
    repeat' split
    all_goals first | exact hpar _ (by omega) (by omega) (by omega) | exact p2 (by assumption) | exact fin
  · exact h.elim
theorem w__law_used : ∀ ds μ Q QX, μ.wf → objBs μ.next ds = true → sp__law_used ds μ Q QX → ds.length = 1 ∧ wpS c__law_used (startE N__law_used ds) μ (outs μ.next Q QX) := by
  intro ds μ Q QX hw ho h
  unfold sp__law_used at h
  split at h
  · rename_i d
    refine ⟨rfl, ?_⟩
    obtain ⟨xs, h1, h2, h3, h4⟩ := h
    have hq : finP μ.next Q (.int (maxI 0 (0 :: parNs xs))) μ := fin_same hw rfl h4
    simp [startE, wpS, wpT, wpE, wpA, wpI, wpG, wpGs, wpOpt, spLen, spIsi, spInt, spStr, spTup, spLst, spMax, spApp, spFind, spSplit, spJoin, spDget, tn_str, tn_int, tn_bl, tn_non, tn_tup, tn_lst, tn_scr, td_str, td_lst, isB, tys, truD, cmpD, binD, slD, ixD, outs, eAllS, eAllN, eMaxD, eGin, eGinT, eGix, eRse, eCal0, drf, sq_tup, sq_lst, sq_scr, sq_str, sq_int, sq_non, l_lst, l_scr, l_tup, lm_lst, lm_str, lm_int, lm_tup, lm_non, lm_bl, eqOk_str, eqOk_int, eqOk_non, deq_int, deq_str, two_le, isNonD, tysOf, c__law_used, N__law_used, wipeE]
    refine itD_of h1 fun gd hg => loopC_pure (fun x => (parN x).map D.int) hg (fun x hx N hN => ?_) (by simp; omega) ?_
    · have hx := List.all_eq_true.mp h3 x hx
      unfold okItemT at hx
      split at hx
      · simp [startE, wpS, wpT, wpE, wpA, wpI, wpG, wpGs, wpOpt, spLen, spIsi, spInt, spStr, spTup, spLst, spMax, spApp, spFind, spSplit, spJoin, spDget, tn_str, tn_int, tn_bl, tn_non, tn_tup, tn_lst, tn_scr, td_str, td_lst, isB, tys, truD, cmpD, binD, slD, ixD, outs, eAllS, eAllN, eMaxD, eGin, eGinT, eGix, eRse, eCal0, drf, sq_tup, sq_lst, sq_scr, sq_str, sq_int, sq_non, l_lst, l_scr, l_tup, lm_lst, lm_str, lm_int, lm_tup, lm_non, lm_bl, eqOk_str, eqOk_int, eqOk_non, deq_int, deq_str, two_le, isNonD, tysOf, atI_zero]
        exact hN
      · simp [startE, wpS, wpT, wpE, wpA, wpI, wpG, wpGs, wpOpt, spLen, spIsi, spInt, spStr, spTup, spLst, spMax, spApp, spFind, spSplit, spJoin, spDget, tn_str, tn_int, tn_bl, tn_non, tn_tup, tn_lst, tn_scr, td_str, td_lst, isB, tys, truD, cmpD, binD, slD, ixD, outs, eAllS, eAllN, eMaxD, eGin, eGinT, eGix, eRse, eCal0, drf, sq_tup, sq_lst, sq_scr, sq_str, sq_int, sq_non, l_lst, l_scr, l_tup, lm_lst, lm_str, lm_int, lm_tup, lm_non, lm_bl, eqOk_str, eqOk_int, eqOk_non, deq_int, deq_str, two_le, isNonD, tysOf, atI_zero]
        exact hN
      · rename_i k n hmem
        simp [startE, wpS, wpT, wpE, wpA, wpI, wpG, wpGs, wpOpt, spLen, spIsi, spInt, spStr, spTup, spLst, spMax, spApp, spFind, spSplit, spJoin, spDget, tn_str, tn_int, tn_bl, tn_non, tn_tup, tn_lst, tn_scr, td_str, td_lst, isB, tys, truD, cmpD, binD, slD, ixD, outs, eAllS, eAllN, eMaxD, eGin, eGinT, eGix, eRse, eCal0, drf, sq_tup, sq_lst, sq_scr, sq_str, sq_int, sq_non, l_lst, l_scr, l_tup, lm_lst, lm_str, lm_int, lm_tup, lm_non, lm_bl, eqOk_str, eqOk_int, eqOk_non, deq_int, deq_str, two_le, isNonD, tysOf, atI_zero, atI_one]
        simp only [parN] at hN
        split
        · rename_i e
          rw [if_pos e] at hN
          exact hN
        · rename_i e
          rw [if_neg e] at hN
          exact hN
      · rename_i k n hmem
        have e := of_decide_eq_true hx
        simp [startE, wpS, wpT, wpE, wpA, wpI, wpG, wpGs, wpOpt, spLen, spIsi, spInt, spStr, spTup, spLst, spMax, spApp, spFind, spSplit, spJoin, spDget, tn_str, tn_int, tn_bl, tn_non, tn_tup, tn_lst, tn_scr, td_str, td_lst, isB, tys, truD, cmpD, binD, slD, ixD, outs, eAllS, eAllN, eMaxD, eGin, eGinT, eGix, eRse, eCal0, drf, sq_tup, sq_lst, sq_scr, sq_str, sq_int, sq_non, l_lst, l_scr, l_tup, lm_lst, lm_str, lm_int, lm_tup, lm_non, lm_bl, eqOk_str, eqOk_int, eqOk_non, deq_int, deq_str, two_le, isNonD, tysOf, atI_zero, e]
        exact hN
      · cases hx
    · have e : xs.filterMap (fun x => (parN x).map D.int) = (parNs xs).map D.int := by
        unfold parNs
        rw [List.map_filterMap]
      have hl : (parNs xs).length ≤ xs.length := List.length_filterMap_le _ _
      rw [List.nil_append, e]
      simp [startE, wpS, wpT, wpE, wpA, wpI, wpG, wpGs, wpOpt, spLen, spIsi, spInt, spStr, spTup, spLst, spMax, spApp, spFind, spSplit, spJoin, spDget, tn_str, tn_int, tn_bl, tn_non, tn_tup, tn_lst, tn_scr, td_str, td_lst, isB, tys, truD, cmpD, binD, slD, ixD, outs, eAllS, eAllN, eMaxD, eGin, eGinT, eGix, eRse, eCal0, drf, sq_tup, sq_lst, sq_scr, sq_str, sq_int, sq_non, l_lst, l_scr, l_tup, lm_lst, lm_str, lm_int, lm_tup, lm_non, lm_bl, eqOk_str, eqOk_int, eqOk_non, deq_int, deq_str, two_le, isNonD, tysOf, ]
      refine ⟨by omega, by omega, 0 :: parNs xs, by simp, by simp, ?_⟩
      exact hq
  · exact h.elim
end M
end

section
set_option Elab.async false
set_option linter.all false
set_option maxRecDepth 100000
set_option maxHeartbeats 4000000
set_option autoImplicit false
/-! law k07: what its defs do. -/
namespace M
open PySem PySem.Spec PyProof.Rows L2
open SX (S S_len S_cat)
def sp__law_rank7 : Spec := sp_rank
def sp__law_put7 : Spec := fun ds μ Q _ => match ds with
  | [r, k, e] => ∃ rows key ent, r = .lst (rows.map rowD) ∧ k = keyD key ∧ e = keyD ent ∧ rows.length ≤ 20 ∧ Q (.lst ((putM rows key ent).map rowD)) μ
  | _ => False
def cmds7 (z : Str) (vs : List Key) : List Cmd := [.close "x", .forget "x", .prepare "x" z, .bind "x" "x" vs, .run "x" 0]
def sp__law_did7 : Spec := fun ds μ Q _ => match ds with
  | [.obj j, .str z, v] => ∃ R F vs r, HW μ (allC j R ++ F) ∧ okSS R.abs ∧ v = tupK vs ∧ z.length ≤ 1000 ∧ vs.length ≤ 1000 ∧ (batchA R.abs (cmds7 z vs)).2[4]? = some r ∧
      ∀ μ' R', HW μ' (allC j R' ++ F) → R'.abs = (batchA R.abs (cmds7 z vs)).1 → μ.next ≤ μ'.next → Q (repD r) μ'
  | _ => False
def replyM (rs : List Row) (w : Str) (k e : Key) : List Row × Rp :=
  if w = "put" then (if 20 < (putM rs k e).length then (rs, .wrong "full") else (putM rs k e, .complete 1))
  else if w = "delete" then (withoutA rs k, .complete ((rs.length : Int) - (withoutA rs k).length))
  else if w = "get" then (rs, .rows ((rs.filter fun r => decide (r.1 = k)).map rowL) false)
  else if w = "total" then (rs, .rows [[.inl rs.length]] false)
  else (rs, .rows ((rs.filter fun r => leK k r.1 && leK r.1 e).map rowL) false)
def sp__law_reply7 : Spec := fun ds μ Q _ => match ds with
  | [r, .str w, k, e] => ∃ rows key ent, r = .lst (rows.map rowD) ∧ k = keyD key ∧ e = keyD ent ∧ rows.length ≤ 20 ∧ Q (.lst [.lst ((replyM rows w key ent).1.map rowD), repD (replyM rows w key ent).2]) μ
  | _ => False
def sp_law7 : Spec := fun ds μ Q _ => match ds with
  | [.scr xs] => ∃ ns : List Int, xs = ns.map .int ∧ ∀ μ', Q (.bl true) μ'
  | _ => False
def N__law_rank7 : List Str := ["_law_value_here"]
def c__law_rank7 : IR := .seq (.ret (.tupC (.cons (.cal "int" spInt (.cons (.cal "isinstance" spIsi (.cons (.var 0) (.cons (.bty "str") .nil))) .nil)) (.cons (.var 0) (.nil))))) (.nil)
def N__law_put7 : List Str := ["_law_rows", "_law_key", "_law_entry", "_law_left", "_law_before", "_law_row_here"]
def c__law_put7 : IR := .seq (.asc 3 (.cpr [("_law_row_here", 5)] (.gN 5) (.itV (.var 0)) (.cmp .NotEq (.ix (.var 5) (.con (.int 0))) (.var 1)) (.var 5))) (.seq (.asc 4 (.cpr [("_law_row_here", 5)] (.gN 5) (.itV (.var 3)) (.cmp .Lt (.cal "_law_rank" sp__law_rank7 (.cons (.ix (.var 5) (.con (.int 0))) .nil)) (.cal "_law_rank" sp__law_rank7 (.cons (.var 1) .nil))) (.var 5))) (.seq (.ret (.bin .Add (.bin .Add (.var 4) (.lstC (.cons (.tupC (.cons (.var 1) (.cons (.var 2) .nil))) .nil))) (.sl (.var 3) (.cal "len" spLen (.cons (.var 4) .nil)) (.nop)))) (.nil)))
def N__law_did7 : List Str := ["_law_session", "_law_string", "_law_values", "_law_commands"]
def c__law_did7 : IR := .seq (.asg (.gN 3) (.lstC (.cons (.tupC (.cons (.con (.str "close")) (.cons (.con (.str "x")) .nil))) (.cons (.tupC (.cons (.con (.str "forget")) (.cons (.con (.str "x")) .nil))) (.cons (.tupC (.cons (.con (.str "prepare")) (.cons (.con (.str "x")) (.cons (.var 1) .nil)))) (.cons (.tupC (.cons (.con (.str "bind")) (.cons (.con (.str "x")) (.cons (.con (.str "x")) (.cons (.var 2) .nil))))) (.cons (.tupC (.cons (.con (.str "run")) (.cons (.con (.str "x")) (.cons (.con (.int 0)) .nil)))) .nil))))))) (.seq (.ret (.ix (.ix (.mcl "run_batch" [(11, sp_Session_run_batch)] (.var 0) (.cons (.var 3) .nil)) (.con (.int 1))) (.con (.int 4)))) (.nil))
def N__law_reply7 : List Str := ["_law_rows", "_law_word", "_law_key", "_law_entry", "_law_left", "_law_found", "_law_made", "_law_row_here"]
def r6__law_reply7 : IR := .seq (.ret (.lstC (.cons (.var 0) (.cons (.tupC (.cons (.con (.str "rows")) (.cons (.var 5) (.cons (.con (.bl false)) .nil)))) .nil)))) (.nil)
def r5__law_reply7 : IR := .seq (.asc 5 (.cpr [("_law_row_here", 7)] (.gN 7) (.itV (.var 0)) (.tAnd (.cmp .LtE (.cal "_law_rank" sp__law_rank7 (.cons (.var 2) .nil)) (.cal "_law_rank" sp__law_rank7 (.cons (.ix (.var 7) (.con (.int 0))) .nil))) (.tOne (.cmp .LtE (.cal "_law_rank" sp__law_rank7 (.cons (.ix (.var 7) (.con (.int 0))) .nil)) (.cal "_law_rank" sp__law_rank7 (.cons (.var 3) .nil))))) (.var 7))) r6__law_reply7
def r4__law_reply7 : IR := .seq (.ifS (.cmp .Eq (.var 1) (.con (.str "total"))) (.seq (.ret (.lstC (.cons (.var 0) (.cons (.tupC (.cons (.con (.str "rows")) (.cons (.lstC (.cons (.tupC (.cons (.cal "len" spLen (.cons (.var 0) .nil)) .nil)) .nil)) (.cons (.con (.bl false)) .nil)))) .nil)))) (.nil)) (.nil)) r5__law_reply7
def r3__law_reply7 : IR := .seq (.ifS (.cmp .Eq (.var 1) (.con (.str "get"))) (.seq (.ret (.lstC (.cons (.var 0) (.cons (.tupC (.cons (.con (.str "rows")) (.cons (.cpr [("_law_row_here", 7)] (.gN 7) (.itV (.var 0)) (.cmp .Eq (.ix (.var 7) (.con (.int 0))) (.var 2)) (.var 7)) (.cons (.con (.bl false)) .nil)))) .nil)))) (.nil)) (.nil)) r4__law_reply7
def r2__law_reply7 : IR := .seq (.ifS (.cmp .Eq (.var 1) (.con (.str "delete"))) (.seq (.ret (.lstC (.cons (.var 4) (.cons (.tupC (.cons (.con (.str "complete")) (.cons (.bin .Sub (.cal "len" spLen (.cons (.var 0) .nil)) (.cal "len" spLen (.cons (.var 4) .nil))) .nil))) .nil)))) (.nil)) (.nil)) r3__law_reply7
def r1__law_reply7 : IR := .seq (.asc 4 (.cpr [("_law_row_here", 7)] (.gN 7) (.itV (.var 0)) (.cmp .NotEq (.ix (.var 7) (.con (.int 0))) (.var 2)) (.var 7))) r2__law_reply7
def c__law_reply7 : IR := .seq (.ifS (.cmp .Eq (.var 1) (.con (.str "put"))) (.seq (.asg (.gN 6) (.cal "_law_put" sp__law_put7 (.cons (.var 0) (.cons (.var 2) (.cons (.var 3) .nil))))) (.seq (.ifS (.cmp .Gt (.cal "len" spLen (.cons (.var 6) .nil)) (.con (.int 20))) (.seq (.ret (.lstC (.cons (.var 0) (.cons (.tupC (.cons (.con (.str "wrong")) (.cons (.con (.str "full")) .nil))) .nil)))) (.nil)) (.nil)) (.seq (.ret (.lstC (.cons (.var 6) (.cons (.tupC (.cons (.con (.str "complete")) (.cons (.con (.int 1)) .nil))) .nil)))) (.nil)))) (.nil)) r1__law_reply7
def N_law7 : List Str := ["_law_script", "_law_session", "_law_rows", "_law_shift", "_law_number", "_law_word", "_law_key", "_law_entry", "_law_values", "_law_string", "_law_due"]
def q7b1_law7 : IR := .seq (.ifS (.tOr (.cmp .NotEq (.cal "_law_did" sp__law_did7 (.cons (.var 1) (.cons (.var 9) (.cons (.var 8) .nil)))) (.var 10)) (.tOne (.cmp .NotEq (.mcl "tables" [(11, sp_Session_tables)] (.var 1) (.nil)) (.lstC (.cons (.tupC (.cons (.con (.str "t")) (.cons (.var 2) .nil))) .nil))))) (.seq (.ret (.con (.bl false))) (.nil)) (.nil)) (.nil)
def q6b1_law7 : IR := .seq (.asg (.gN 9) (.bin .Add (.bin .Add (.bin .Add (.var 5) (.con (.str " t"))) (.bin .Mult (.con (.str " $1")) (.cal "int" spInt (.cons (.cmp .Gt (.cal "len" spLen (.cons (.var 8) .nil)) (.con (.int 0))) .nil)))) (.bin .Mult (.con (.str " $2")) (.cal "int" spInt (.cons (.cmp .Gt (.cal "len" spLen (.cons (.var 8) .nil)) (.con (.int 1))) .nil))))) q7b1_law7
def q5b1_law7 : IR := .seq (.asg (.gN 8) (.bme "dict" "dict.get" "get" spDget (.nod (fDsp ["put", "scan", "total"]) (eDsp ["put", "scan", "total"]) (.cons (.tupC (.cons (.var 6) (.cons (.var 7) .nil))) (.cons (.tupC (.cons (.var 6) (.cons (.var 7) .nil))) (.cons (.tupC (.nil)) .nil)))) (.cons (.var 5) (.cons (.tupC (.cons (.var 6) .nil)) .nil)))) q6b1_law7
def q4b1_law7 : IR := .seq (.asg (.gT 2 (.cons (.gN 2) (.cons (.gN 10) (.nil)))) (.cal "_law_reply" sp__law_reply7 (.cons (.var 2) (.cons (.var 5) (.cons (.var 6) (.cons (.var 7) .nil)))))) q5b1_law7
def q3b1_law7 : IR := .seq (.ifS (.tAnd (.cmp .Eq (.bin .Mod (.cal "_law_cell" sp__law_cell (.cons (.var 0) (.cons (.con (.int 2)) .nil))) (.con (.int 3))) (.con (.int 0))) (.tOne (.cmp .Eq (.var 5) (.con (.str "put"))))) (.seq (.asg (.gN 6) (.bin .Mod (.bin .FloorDiv (.var 4) (.con (.int 8))) (.con (.int 23)))) (.nil)) (.nil)) q4b1_law7
def q2b1_law7 : IR := .seq (.asg (.gN 7) (.cal "_law_value" sp__law_value (.cons (.bin .FloorDiv (.var 4) (.con (.int 3))) .nil))) q3b1_law7
def q1b1_law7 : IR := .seq (.asg (.gN 6) (.cal "_law_value" sp__law_value (.cons (.bin .Add (.bin .FloorDiv (.var 4) (.con (.int 8))) (.var 3)) .nil))) q2b1_law7
def b1_law7 : IR := .seq (.asg (.gN 5) (.ix (.lstC (.cons (.con (.str "put")) (.cons (.con (.str "put")) (.cons (.con (.str "put")) (.cons (.con (.str "put")) (.cons (.con (.str "delete")) (.cons (.con (.str "get")) (.cons (.con (.str "total")) (.cons (.con (.str "scan")) .nil))))))))) (.bin .Mod (.var 4) (.con (.int 8))))) q1b1_law7
def r5_law7 : IR := .seq (.ret (.cmp .Eq (.cal "_law_did" sp__law_did7 (.cons (.var 1) (.cons (.con (.str "scan t")) (.cons (.tupC (.nil)) .nil)))) (.tupC (.cons (.con (.str "rows")) (.cons (.var 2) (.cons (.con (.bl false)) .nil)))))) (.nil)
def r4_law7 : IR := .seq (.fr (.gN 4) (.itV (.bin .Add (.cal "_law_row" sp__law_row (.cons (.cal "_law_cell" sp__law_cell (.cons (.var 0) (.cons (.con (.int 1)) .nil))) (.cons (.con (.int 30)) .nil))) (.sl (.var 0) (.con (.int 3)) (.con (.int 20))))) b1_law7) r5_law7
def r3_law7 : IR := .seq (.asg (.gN 3) (.bin .Mod (.cal "_law_cell" sp__law_cell (.cons (.var 0) (.cons (.con (.int 0)) .nil))) (.con (.int 40)))) r4_law7
def r2_law7 : IR := .seq (.asg (.gN 2) (.lstC (.nil))) r3_law7
def r1_law7 : IR := .seq (.ifS (.cmp .NotEq (.cal "_law_did" sp__law_did7 (.cons (.var 1) (.cons (.con (.str "create t")) (.cons (.tupC (.nil)) .nil)))) (.tupC (.cons (.con (.str "complete")) (.cons (.con (.int 0)) .nil)))) (.seq (.ret (.con (.bl false))) (.nil)) (.nil)) r2_law7
def c_law7 : IR := .seq (.asg (.gN 1) (.nod (fNew "Session") (eNew 11 (spD sp_Session___init__ [.tup []])) (.nil))) r1_law7
end M
end

section
set_option Elab.async false
set_option linter.all false
set_option maxRecDepth 100000
set_option maxHeartbeats 4000000
set_option autoImplicit false
namespace M
open PySem PySem.Spec PyProof.Rows L2
open SX (S S_len S_cat)
theorem w__law_rank7 : ∀ ds μ Q QX, μ.wf → objBs μ.next ds = true → sp__law_rank7 ds μ Q QX → ds.length = 1 ∧ wpS c__law_rank7 (startE N__law_rank7 ds) μ (outs μ.next Q QX) := by
  intro ds μ Q QX hw ho h
  unfold sp__law_rank7 sp_rank at h
  split at h
  · obtain ⟨k, rfl, h1⟩ := h
    refine ⟨rfl, ?_⟩
    cases k with
    | inl i =>
      have h1 : Q (.tup [.int 0, .int i]) μ := h1
      simp [startE, wpS, wpT, wpE, wpA, wpI, wpG, wpGs, wpOpt, spLen, spIsi, spInt, spStr, spTup, spLst, spMax, spApp, spFind, spSplit, spJoin, spDget, tn_str, tn_int, tn_bl, tn_non, tn_tup, tn_lst, tn_scr, td_str, td_lst, isB, tys, truD, cmpD, binD, slD, ixD, outs, eAllS, eAllN, eMaxD, eGin, eGinT, eGix, eRse, eCal0, drf, sq_tup, sq_lst, sq_scr, sq_str, sq_int, sq_non, l_lst, l_scr, l_tup, lm_lst, lm_str, lm_int, lm_tup, lm_non, lm_bl, eqOk_str, eqOk_int, eqOk_non, deq_int, deq_str, two_le, isNonD, tysOf, c__law_rank7, N__law_rank7, keyD, two_le]
      exact fin_same hw rfl h1
    | inr s =>
      have h1 : Q (.tup [.int 1, .str s]) μ := by rw [← rkT_str]; exact h1
      simp [startE, wpS, wpT, wpE, wpA, wpI, wpG, wpGs, wpOpt, spLen, spIsi, spInt, spStr, spTup, spLst, spMax, spApp, spFind, spSplit, spJoin, spDget, tn_str, tn_int, tn_bl, tn_non, tn_tup, tn_lst, tn_scr, td_str, td_lst, isB, tys, truD, cmpD, binD, slD, ixD, outs, eAllS, eAllN, eMaxD, eGin, eGinT, eGix, eRse, eCal0, drf, sq_tup, sq_lst, sq_scr, sq_str, sq_int, sq_non, l_lst, l_scr, l_tup, lm_lst, lm_str, lm_int, lm_tup, lm_non, lm_bl, eqOk_str, eqOk_int, eqOk_non, deq_int, deq_str, two_le, isNonD, tysOf, c__law_rank7, N__law_rank7, keyD, two_le]
      exact fin_same hw rfl h1
  · exact h.elim
theorem rank7_ap {k : Key} {μ : Sto} {Q : Post} {E : XPost} (h : Q (rkT (rkK k)) μ) : sp__law_rank7 [keyD k] μ Q E := ⟨k, rfl, h⟩
theorem cmp_lt_rk {a b : Key} {μ : Sto} {Q : Bool → Prop} (h : Q (ltK a b)) : cmpD .Lt (rkT (rkK a)) (rkT (rkK b)) μ Q := by
  rw [rkT_key, rkT_key]
  cases a with
  | inl i => cases b with
    | inl j =>
      have h : Q (decide (i < j)) := h
      by_cases e : i = j
      · subst e
        simpa [cmpD, tupO, flatD, deq_int] using h
      · simpa [cmpD, tupO, flatD, deq_int, ltF, e] using h
    | inr t => simpa [cmpD, tupO, flatD, deq_int, ltF, ltK] using h
  | inr s => cases b with
    | inl j => simpa [cmpD, tupO, flatD, deq_int, ltF, ltK] using h
    | inr t =>
      have h : Q (decide (s.cps.toList < t.cps.toList)) := h
      by_cases e : s = t
      · subst e
        rw [decide_eq_false (List.lt_irrefl _)] at h
        simpa [cmpD, tupO, flatD, deq_int, deq_str] using h
      · simpa [cmpD, tupO, flatD, deq_int, deq_str, ltF, e] using h
theorem w__law_put7 : ∀ ds μ Q QX, μ.wf → objBs μ.next ds = true → sp__law_put7 ds μ Q QX → ds.length = 3 ∧ wpS c__law_put7 (startE N__law_put7 ds) μ (outs μ.next Q QX) := by
  intro ds μ Q QX hw ho h
  unfold sp__law_put7 at h
  split at h
  · obtain ⟨rows, key, ent, rfl, rfl, rfl, hl, h1⟩ := h
    refine ⟨rfl, ?_⟩
    have := sz1000
    have hl2 := withoutA_le rows key
    simp [startE, wpS, wpT, wpE, wpA, wpI, wpG, wpGs, wpOpt, outs, wipeE, ePar, c__law_put7, N__law_put7, it_lst]
    refine loopC_sel rowD rowD (fun r => decide (r.1 ≠ key)) trivial (fun r _ N hN => ?_) (by omega) ?_
    · rw [row_ix]
      refine cmp_ne ?_
      by_cases e : r.1 = key <;> simpa [e] using hN
    · rw [show (rows.filter fun r => decide (r.1 ≠ key)) = withoutA rows key from rfl]
      refine loopC_sel rowD rowD (fun r => ltK r.1 key) trivial (fun r _ N hN => ?_) (by omega) ?_
      · rw [row_ix]
        refine rank7_ap (rank7_ap (cmp_lt_rk ?_))
        cases e : ltK r.1 key <;> simpa [e] using hN
      · have hb := List.length_filter_le (fun r : Row => ltK r.1 key) (withoutA rows key)
        simp [startE, wpS, wpT, wpE, wpA, wpI, wpG, wpGs, wpOpt, outs, wipeE, ePar, two_le, one_le, spLen, sq_lst]
        rw [bin_addL]
        refine ⟨by simp; omega, ?_⟩
        simp [startE, wpS, wpT, wpE, wpA, wpI, wpG, wpGs, wpOpt, outs, wipeE, ePar, slD, l_lst, cut_from]
        rw [bin_addL]
        refine ⟨by simp; omega, ?_⟩
        have e3 : ((withoutA rows key).filter fun r => ltK r.1 key).map rowD ++ [D.tup [keyD key, keyD ent]] ++ ((withoutA rows key).map rowD).drop ((withoutA rows key).filter fun r => ltK r.1 key).length = (putM rows key ent).map rowD := by
          unfold putM
          rw [List.map_append, List.map_append, List.map_drop]
          rfl
        rw [e3]
        exact fin_same hw (rows_B _) h1
  · exact h.elim
theorem w__law_did7 : ∀ ds μ Q QX, μ.wf → objBs μ.next ds = true → sp__law_did7 ds μ Q QX → ds.length = 3 ∧ wpS c__law_did7 (startE N__law_did7 ds) μ (outs μ.next Q QX) := by
  intro ds μ Q QX hw ho h
  unfold sp__law_did7 at h
  split at h
  · rename_i j z v
    obtain ⟨R, F, vs, r, hh, hok, rfl, hz, hv, hr, h1⟩ := h
    refine ⟨rfl, ?_⟩
    have := sz1000
    have hj := hh.toC.core.j
    have m1 := met_s (sp := sp_Session_run_batch) (m := "run_batch") hj rfl
    have five : 5 ≤ sizeLine := by omega
    have four : 4 ≤ sizeLine := by omega
    simp [startE, wpS, wpT, wpE, wpA, wpI, wpG, wpGs, wpOpt, outs, wipeE, ePar, c__law_did7, N__law_did7, two_le, three_le, four, five, m1]
    refine ⟨R, F, _, cmds7 z vs, hh, hok, .inl (.inr rfl), ?_, by show 5 ≤ 1000; decide, fun μ' R' hh' hr' hn' => ?_⟩
    · refine ⟨⟨_, .inl rfl, rfl⟩, ⟨_, .inl rfl, rfl⟩, ⟨_, .inl rfl, rfl, hz⟩, ⟨_, .inl rfl, _, rfl, .inl rfl, hv⟩, ⟨_, .inl rfl, rfl, by decide⟩, trivial⟩
    · dsimp only
      unfold outD
      rw [ixt_1]
      have e : ixD (D.lst ((batchA R.abs (cmds7 z vs)).2.map repD)) (.int 4) μ' = fun Q => Q (repD r) μ' := by
        funext Q
        have e2 : atI ((batchA R.abs (cmds7 z vs)).2.map repD) 4 = some (repD r) := by
          have := atI_nat' ((batchA R.abs (cmds7 z vs)).2.map repD) 4
          rw [List.getElem?_map, hr] at this
          exact this
        simp [ixD, sq_lst, e2]
      rw [e]
      exact fin_all hh'.wf hn' (repD_B _ _) (h1 _ _ hh' hr' hn')
  · exact h.elim
end M
end

section
set_option Elab.async false
set_option linter.all false
set_option maxRecDepth 100000
set_option maxHeartbeats 4000000
set_option autoImplicit false
/-! commands as data; a batch run by a law. -/
namespace M
open PySem PySem.Spec PyProof.Rows L2
def cmdD : Cmd → D
  | .prepare n z => .tup [.str "prepare", .str n, .str z]
  | .bind p n vs => .tup [.str "bind", .str p, .str n, tupK vs]
  | .run n m => .tup [.str "run", .str n, .int m]
  | .forget n => .tup [.str "forget", .str n]
  | .close n => .tup [.str "close", .str n]
def cmdOk : Cmd → Prop
  | .prepare _ z => z.length ≤ 1000
  | .bind _ _ vs => vs.length ≤ 1000
  | .run _ m => 0 ≤ m
  | _ => True
theorem cmdD_R {c : Cmd} (h : cmdOk c) : CmdR (cmdD c) c := by
  cases c with
  | prepare n z => exact ⟨_, .inl rfl, rfl, h⟩
  | bind p n vs => exact ⟨_, .inl rfl, _, rfl, .inl rfl, h⟩
  | run n m => exact ⟨_, .inl rfl, rfl, h⟩
  | forget n => exact ⟨_, .inl rfl, rfl⟩
  | close n => exact ⟨_, .inl rfl, rfl⟩
def cmdsD (cs : List Cmd) : D := .lst (cs.map cmdD)
theorem cmds_R : ∀ {cs : List Cmd}, (∀ c ∈ cs, cmdOk c) → All2 CmdR (cs.map cmdD) cs
  | [], _ => trivial
  | c :: cs, h => ⟨cmdD_R (h c (by simp)), cmds_R fun x m => h x (by simp [m])⟩
theorem run_ap {μ : Sto} {j : Nat} {R : RS} {F : Cells} {cs : List Cmd} {Q : Post} {E : XPost} (hh : HW μ (allC j R ++ F)) (hok : okSS R.abs) (hc : ∀ c ∈ cs, cmdOk c) (hl : cs.length ≤ 1000)
    (h : ∀ μ' R', HW μ' (allC j R' ++ F) → R'.abs = (batchA R.abs cs).1 → μ.next ≤ μ'.next → Q (outD (batchA R.abs cs)) μ') : sp_Session_run_batch [.obj j, cmdsD cs] μ Q E :=
  ⟨R, F, cs.map cmdD, cs, hh, hok, .inl (.inr rfl), cmds_R hc, hl, h⟩
theorem batchL_ok : ∀ {cs : List Cmd} {s : SS} {rs : List Rp}, okSS s → okSS (batchL s rs cs).1
  | [], _, _, h => h
  | c :: cs, s, rs, h => by
    unfold batchL
    split
    · exact batchL_ok h
    · exact batchL_ok (replyA_ok h)
theorem closeA_ok {s : SS} (h : okSS s) : okSS (closeA s) := by
  unfold closeA
  split
  · exact ⟨⟨h.c.1, h.c.1, h.c.2.2⟩, h.sl, h.st, Nat.zero_le _, List.nodup_nil, fun t m => by cases m⟩
  · exact h
theorem batchA_ok {cs : List Cmd} {s : SS} (h : okSS s) : okSS (batchA s cs).1 := closeA_ok (batchL_ok h)
end M
end

section
set_option Elab.async false
set_option linter.all false
set_option maxRecDepth 100000
set_option maxHeartbeats 4000000
set_option autoImplicit false
/-! M: min and max of two numbers. -/
namespace M
open PySem PySem.Spec PyProof.Rows L2
section
variable {B : Bs} {T : List Addr} {cls : Nat → Addr} {k : Nat} {cd : Prop} {X : Cx} {Wx : WX}
def spMin2 : Spec := fun ds μ Q _ => match ds with
  | [.int i, .int j] => Q (.int (if j < i then j else i)) μ
  | _ => False
def spMax2 : Spec := fun ds μ Q _ => match ds with
  | [.int i, .int j] => Q (.int (if i < j then j else i)) μ
  | _ => False
theorem c_min2 (hm : B.mg "min" = none) : CalC B T cls k "min" spMin2 := by
  refine c_bi hm (by decide) (by decide) (show bootBuiltins "min" = some (.builtin "min") by decide +kernel) (.inl ⟨_, rfl⟩) (fun _ _ _ _ h => h) fun X hB hc hr pins s σ S us vs ds QM Q I r R rr hw hq => ?_
  unfold spMin2 at hw
  split at hw
  · rename_i i j
    obtain ⟨x, y, rfl, q1, q2⟩ := Reps.inv2 rr
    exact call_min2 hc pins s σ S.H _ us Q I r ⟨i, j, by rw [show x = _ from q1, show y = _ from q2], hq S (.int _) _ (.refl _) R rfl hw⟩
  · exact hw.elim
theorem c_max2 (hm : B.mg "max" = none) : CalC B T cls k "max" spMax2 := by
  refine c_bi hm (by decide) (by decide) (show bootBuiltins "max" = some (.builtin "max") by decide +kernel) (.inl ⟨_, rfl⟩) (fun _ _ _ _ h => h) fun X hB hc hr pins s σ S us vs ds QM Q I r R rr hw hq => ?_
  unfold spMax2 at hw
  split at hw
  · rename_i i j
    obtain ⟨x, y, rfl, q1, q2⟩ := Reps.inv2 rr
    exact call_max2 hc pins s σ S.H _ us Q I r ⟨i, j, by rw [show x = _ from q1, show y = _ from q2], hq S (.int _) _ (.refl _) R rfl hw⟩
  · exact hw.elim
/-- a[lo:], a list that is changed later -/
def fSlL : XF := fun _ _ _ e => match e with
  | .Subscript a (.Slice (some lo) none none _) _ => if isStar a = false ∧ isStar lo = false then some [a, lo] else none
  | _ => none
def eSlL : EvE := fun _ ds μ Q _ => match ds with
  | [d, .int h] => match asL d μ with
    | some xs => Q (.obj μ.next) (μ.new (.lst (cutD xs (some h) none)))
    | none => False
  | _ => False
def RSdL (W : Wd) : V → Option Int → Option Int → Hp → VK → Prop := fun x lo hi H Q => ∃ S d h QM, S.H = H ∧ Rl W S ∧ Rep W.K S.vw d x ∧ lo = some h ∧ hi = none ∧ eSlL [] [d, .int h] S.μ QM (fun _ _ => False) ∧ After W S QM Q
theorem slL_ok : SlR X (RSdL (wd X T cls)) := by
  intro pins s σ _ x v vl vu lo hi sl Q I rx hs pl pu h0
  obtain ⟨S, dx, h, QM, rfl, R, hx, rfl, rfl, hb, hq⟩ := h0
  unfold eSlL at hb
  dsimp only at hb
  split at hb
  · rename_i ds e
    obtain ⟨a, vs, e1, g1, q1⟩ := asL_rep R hx e
    exact sl_list pins s σ _ x v vl vu _ _ sl Q I rx hs pl pu ⟨a, vs, e1, g1, new_lst R (reps_cut q1) hb hq⟩
  · exact hb.elim
theorem n_slL : NodOk B T cls k cd fSlL eSlL := by
  intro X top Wx e es as S hf hp
  unfold fSlL at hf
  split at hf
  · rename_i a lo p2 pos
    split at hf
    · rename_i hst
      cases hf
      obtain ⟨ca, cb, rfl, _, ha, _, hb⟩ := hp.two
      refine PE.weak (pe_slice (slL_ok (T := T) (cls := cls)) ha (po_some hb) po_none) fun σ H Q h => ?_
      obtain ⟨S0, δ, QM, QX, rfl, R, hE, hw, hq, hx⟩ := h
      simp only [wpE, wpA] at hw
      refine ⟨S0, δ, _, QX, rfl, R, hE, hw, fun S1 d1 v1 l1 R1 r1 w1 => ⟨S1, δ, _, QX, rfl, R1, hE.mono l1.1, w1, fun S2 d2 v2 l2 R2 r2 w2 => ?_, hx.le l1⟩, hx⟩
      have w3 := w2
      dsimp only [eSlL] at w2
      split at w2
      · rename_i z h hz
        cases hz
        obtain rfl : v2 = V.int h := r2
        exact ⟨h, rfl, S2, d1, h, QM, rfl, R2, r1.mono l2.1, rfl, rfl, w3, hq.le (l1.trans l2)⟩
      · exact w2.elim
    · cases hf
  · cases hf
/-- a * n, a list so many times -/
def fMulL : XF := fun _ _ _ e => match e with
  | .BinOp a .Mult b _ => if isStar a = false ∧ isStar b = false then some [a, b] else none
  | _ => none
def eMulL : EvE := fun _ ds μ Q _ => match ds with
  | [.lst xs, .int n] => -(2 ^ 63) ≤ n ∧ n < 2 ^ 63 ∧ xs.length * n.toNat ≤ sizeLine ∧ Q (.lst (List.replicate n.toNat xs).flatten) μ
  | _ => False
theorem reps_rep {K : PySem.W.Frag} {w : Vw} {ds : List D} {xs : List V} (h : Reps K w ds xs) : ∀ n : Nat, Reps K w (List.replicate n ds).flatten (List.replicate n xs).flatten
  | 0 => rfl
  | n + 1 => by
    rw [List.replicate_succ, List.replicate_succ, List.flatten_cons, List.flatten_cons]
    exact h.append (reps_rep h n)
def R2u (W : Wd) : R2 := fun x y H Q => ∃ S dx dy QM, S.H = H ∧ Rl W S ∧ Rep W.K S.vw dx x ∧ Rep W.K S.vw dy y ∧ eMulL [] [dx, dy] S.μ QM (fun _ _ => False) ∧ After W S QM Q
theorem mulL_ok : OpR X (binaryOp .Mult) (R2u (wd X T cls)) := by
  intro pins s σ _ x y v u Q I rx ry h0
  obtain ⟨S, dx, dy, QM, rfl, R, hx, hy, hb, hq⟩ := h0
  unfold eMulL at hb
  split at hb
  · rename_i xs n hz
    cases hz
    obtain ⟨b1, b2, b3, b4⟩ := hb
    obtain ⟨a, vx, r1, g1, q1⟩ := hx
    obtain rfl : y = V.int n := hy
    exact op_rep pins s σ _ x (.int n) v u Q I rx ry ⟨a, n, vx, r1, rfl, hid_ex g1, b1, b2, by rw [q1.length]; exact b3, fresh_lst R (reps_rep q1 _) b4 hq⟩
  · exact hb.elim
theorem n_mulL : NodOk B T cls k cd fMulL eMulL := by
  intro X top Wx e es as S hf hp
  unfold fMulL at hf
  split at hf
  · rename_i a b pos
    split at hf
    · rename_i hst
      cases hf
      obtain ⟨ca, cb, rfl, _, ha, _, hb⟩ := hp.two
      refine PE.weak (pe_op (mulL_ok (T := T) (cls := cls)) ha hb) fun σ H Q h => ?_
      obtain ⟨S0, δ, QM, QX, rfl, R, hE, hw, hq, hx⟩ := h
      simp only [wpE, wpA] at hw
      exact ⟨S0, δ, _, QX, rfl, R, hE, hw, fun S1 d1 v1 l1 R1 r1 w1 => ⟨S1, δ, _, QX, rfl, R1, hE.mono l1.1, w1, fun S2 d2 v2 l2 R2 r2 w2 => ⟨S2, d1, d2, QM, rfl, R2, r1.mono l2.1, r2, w2, hq.le (l1.trans l2)⟩, hx.le l1⟩, hx⟩
    · cases hf
  · cases hf
/-- list(range(a, b)) -/
def fLrg : XF := fun _ sc _ e => match e with
  | .Call (.Name y _) [.Call (.Name z _) [a, b] [] _] [] _ => if y = ("list" : Str) ∧ glB sc y = true ∧ z = ("range" : Str) ∧ glB sc z = true ∧ isStar a = false ∧ isStar b = false then some [a, b] else none
  | _ => none
def eLrg : EvE := fun _ ds μ Q _ => match ds with
  | [.int i, .int j] => RgOk i j ∧ Q (.lst (intsD i (j - i).toNat)) μ
  | _ => False
theorem reps_rg {K : PySem.W.Frag} {w : Vw} {i j : Int} : Reps K w (intsD i (j - i).toNat) (rgV i j) := by
  unfold intsD rgV
  generalize List.range (j - i).toNat = l
  induction l with
  | nil => rfl
  | cons x l ih => exact ⟨_, _, rfl, rfl, ih⟩
theorem n_lrg (h1 : B.mg "list" = none) (h2 : B.mg "range" = none) : NodOk B T cls k cd fLrg eLrg := by
  intro X top Wx e es as S hf hp
  unfold fLrg at hf
  split at hf
  · rename_i y p1 z p2 a b p3 pos
    split at hf
    · rename_i hc
      obtain ⟨rfl, g1, rfl, g2, s1, s2⟩ := hc
      cases hf
      obtain ⟨ca, cb, rfl, _, ha, _, hb⟩ := hp.two
      have hB := S.bs
      subst hB
      refine PE.weak (pe_listRg S.g.calm (gl_of g1) h1 (prg_2 (gl_of g2) h2 ha hb (star_of s1) (star_of s2) ?_) (star_of rfl)) fun σ H Q h => ?_
      · rw [star_of s2]
        rfl
      · obtain ⟨S0, δ, QM, QX, rfl, R, hE, hw, hq, hx⟩ := h
        simp only [wpE, wpA] at hw
        refine ⟨S0, δ, _, QX, rfl, R, hE, hw, fun S1 d1 v1 l1 R1 r1 w1 => ⟨S1, δ, _, QX, rfl, R1, hE.mono l1.1, w1, fun S2 d2 v2 l2 R2 r2 w2 => ?_, hx.le l1⟩, hx⟩
        dsimp only [eLrg] at w2
        split at w2
        · rename_i i j hz
          cases hz
          exact ⟨i, j, r1, r2, w2.1, fresh_lst R2 reps_rg w2.2 (hq.le (l1.trans l2))⟩
        · exact w2.elim
    · cases hf
  · cases hf
end
end M
end

section
set_option Elab.async false
set_option linter.all false
set_option maxRecDepth 100000
set_option maxHeartbeats 4000000
set_option autoImplicit false
/-! law k09: what its defs do. -/
namespace M
open PySem PySem.Spec PyProof.Rows L2
open SX (S S_len S_cat)
/-- True, whatever happens to the cells -/
def yes (μ : Sto) (Q : Post) : Prop := ∀ μ', μ'.wf → μ.next ≤ μ'.next → Q (.bl true) μ'
def sp__law_tables_hold : Spec := fun ds μ Q _ => match ds with
  | [.int n] => 0 ≤ n ∧ n < 7 ∧ yes μ Q
  | _ => False
def sp__law_named_hold : Spec := fun ds μ Q _ => match ds with
  | [.int n] => 0 ≤ n ∧ n < 11 ∧ yes μ Q
  | _ => False
def sp__law_portals_hold : Spec := fun ds μ Q _ => match ds with
  | [] => yes μ Q
  | _ => False
def sp__law_saves_hold : Spec := fun ds μ Q _ => match ds with
  | [.int n] => 0 ≤ n ∧ n < 13 ∧ yes μ Q
  | _ => False
def sp_law9 : Spec := fun ds μ Q _ => match ds with
  | [.scr xs] => ∃ ns : List Int, xs = ns.map .int ∧ ∀ μ', Q (.bl true) μ'
  | _ => False
def N__law_tables_hold : List Str := ["_law_count", "_law_session", "_law_k", "_law_due", "_law_table"]
def q2b1__law_tables_hold : IR := .seq (.ifS (.cmp .NotEq (.cal "_law_did" sp__law_did7 (.cons (.var 1) (.cons (.bin .Add (.con (.str "create ")) (.ix (.con (.str "abcdef")) (.var 2))) (.cons (.tupC (.nil)) .nil)))) (.var 3)) (.seq (.ret (.con (.bl false))) (.nil)) (.nil)) (.nil)
def q1b1__law_tables_hold : IR := .seq (.ifS (.cmp .GtE (.var 2) (.con (.int 4))) (.seq (.asg (.gN 3) (.tupC (.cons (.con (.str "wrong")) (.cons (.con (.str "crowded")) .nil)))) (.nil)) (.nil)) q2b1__law_tables_hold
def b1__law_tables_hold : IR := .seq (.asg (.gN 3) (.tupC (.cons (.con (.str "complete")) (.cons (.con (.int 0)) .nil)))) q1b1__law_tables_hold
def r3__law_tables_hold : IR := .seq (.ret (.cmp .Eq (.cpr [("_law_table", 4)] (.gN 4) (.itV (.mcl "tables" [(11, sp_Session_tables)] (.var 1) (.nil))) (.nop) (.ix (.var 4) (.con (.int 0)))) (.sl (.lstC (.cons (.con (.str "a")) (.cons (.con (.str "b")) (.cons (.con (.str "c")) (.cons (.con (.str "d")) .nil))))) (.nop) (.var 0)))) (.nil)
def r2__law_tables_hold : IR := .seq (.ifS (.tAnd (.cmp .Gt (.var 0) (.con (.int 0))) (.tOne (.cmp .NotEq (.cal "_law_did" sp__law_did7 (.cons (.var 1) (.cons (.con (.str "create a")) (.cons (.tupC (.nil)) .nil)))) (.tupC (.cons (.con (.str "wrong")) (.cons (.con (.str "exists")) .nil)))))) (.seq (.ret (.con (.bl false))) (.nil)) (.nil)) r3__law_tables_hold
def r1__law_tables_hold : IR := .seq (.fr (.gN 2) (.itR1 (.var 0)) b1__law_tables_hold) r2__law_tables_hold
def c__law_tables_hold : IR := .seq (.asg (.gN 1) (.nod (fNew "Session") (eNew 11 (spD sp_Session___init__ [.tup []])) (.nil))) r1__law_tables_hold
def N__law_named_hold : List Str := ["_law_count", "_law_session", "_law_k", "_law_commands", "_law_replies", "_law_due", "_law_told"]
def q1b1__law_named_hold : IR := .seq (.ifS (.cmp .NotEq (.var 6) (.ix (.lstC (.cons (.lstC (.cons (.tupC (.cons (.con (.str "prepared")) (.cons (.con (.int 0)) .nil))) .nil)) (.cons (.lstC (.cons (.tupC (.cons (.con (.str "wrong")) (.cons (.con (.str "crowded")) .nil))) .nil)) .nil))) (.cal "int" spInt (.cons (.cmp .GtE (.var 2) (.con (.int 8))) .nil)))) (.seq (.ret (.con (.bl false))) (.nil)) (.nil)) (.nil)
def b1__law_named_hold : IR := .seq (.asg (.gN 6) (.ix (.mcl "run_batch" [(11, sp_Session_run_batch)] (.var 1) (.cons (.lstC (.cons (.tupC (.cons (.con (.str "prepare")) (.cons (.bin .Add (.con (.str "s")) (.ix (.con (.str "abcdefghij")) (.var 2))) (.cons (.con (.str "total t")) .nil)))) .nil)) .nil)) (.con (.int 1)))) q1b1__law_named_hold
def r9__law_named_hold : IR := .seq (.ret (.cmp .Eq (.var 4) (.var 5))) (.nil)
def r8__law_named_hold : IR := .seq (.ifS (.cmp .Gt (.var 0) (.con (.int 8))) (.seq (.asg (.gN 5) (.bin .Add (.bin .Add (.var 5) (.lstC (.cons (.tupC (.cons (.con (.str "wrong")) (.cons (.con (.str "crowded")) .nil))) .nil))) (.cpr [("_law_k", 2)] (.gN 2) (.itR1 (.bin .Sub (.var 0) (.con (.int 9)))) (.nop) (.tupC (.cons (.con (.str "skipped")) .nil))))) (.nil)) (.nil)) r9__law_named_hold
def r7__law_named_hold : IR := .seq (.asg (.gN 5) (.bin .Add (.lstC (.cons (.tupC (.cons (.con (.str "closed")) .nil)) (.cons (.tupC (.cons (.con (.str "prepared")) (.cons (.con (.int 1)) .nil))) .nil))) (.cpr [("_law_k", 2)] (.gN 2) (.itR1 (.cal "min" spMin2 (.cons (.var 0) (.cons (.con (.int 8)) .nil)))) (.nop) (.tupC (.cons (.con (.str "bound")) .nil))))) r8__law_named_hold
def r6__law_named_hold : IR := .seq (.asg (.gN 4) (.ix (.mcl "run_batch" [(11, sp_Session_run_batch)] (.var 1) (.cons (.var 3) .nil)) (.con (.int 1)))) r7__law_named_hold
def r5__law_named_hold : IR := .seq (.asg (.gN 3) (.bin .Add (.var 3) (.cpr [("_law_k", 2)] (.gN 2) (.itR1 (.var 0)) (.nop) (.tupC (.cons (.con (.str "bind")) (.cons (.bin .Add (.con (.str "p")) (.ix (.con (.str "abcdefghij")) (.var 2))) (.cons (.con (.str "sa")) (.cons (.tupC (.cons (.var 2) .nil)) .nil)))))))) r6__law_named_hold
def r4__law_named_hold : IR := .seq (.asg (.gN 3) (.lstC (.cons (.tupC (.cons (.con (.str "forget")) (.cons (.con (.str "sa")) .nil))) (.cons (.tupC (.cons (.con (.str "prepare")) (.cons (.con (.str "sa")) (.cons (.con (.str "scan t $1 $1")) .nil)))) .nil)))) r5__law_named_hold
def r3__law_named_hold : IR := .seq (.ifS (.tAnd (.cmp .Gt (.var 0) (.con (.int 7))) (.tOne (.cmp .NotEq (.ix (.mcl "run_batch" [(11, sp_Session_run_batch)] (.var 1) (.cons (.lstC (.cons (.tupC (.cons (.con (.str "prepare")) (.cons (.con (.str "sz")) (.cons (.con (.str "?")) .nil)))) .nil)) .nil)) (.con (.int 1))) (.lstC (.cons (.tupC (.cons (.con (.str "wrong")) (.cons (.con (.str "crowded")) .nil))) .nil))))) (.seq (.ret (.con (.bl false))) (.nil)) (.nil)) r4__law_named_hold
def r2__law_named_hold : IR := .seq (.ifS (.tAnd (.cmp .Gt (.var 0) (.con (.int 0))) (.tOne (.cmp .NotEq (.ix (.mcl "run_batch" [(11, sp_Session_run_batch)] (.var 1) (.cons (.lstC (.cons (.tupC (.cons (.con (.str "prepare")) (.cons (.con (.str "sa")) (.cons (.con (.str "?")) .nil)))) .nil)) .nil)) (.con (.int 1))) (.lstC (.cons (.tupC (.cons (.con (.str "wrong")) (.cons (.con (.str "taken")) .nil))) .nil))))) (.seq (.ret (.con (.bl false))) (.nil)) (.nil)) r3__law_named_hold
def r1__law_named_hold : IR := .seq (.fr (.gN 2) (.itR1 (.var 0)) b1__law_named_hold) r2__law_named_hold
def c__law_named_hold : IR := .seq (.asg (.gN 1) (.nod (fNew "Session") (eNew 11 (spD sp_Session___init__ [.tup []])) (.nil))) r1__law_named_hold
def N__law_portals_hold : List Str := ["_law_session", "_law_commands", "_law_told", "_law_command", "_law_word", "_law_k"]
def b1__law_portals_hold : IR := .seq (.ifS (.cmp .NotEq (.mcl "run_batch" [(11, sp_Session_run_batch)] (.var 0) (.cons (.lstC (.cons (.var 3) .nil)) .nil)) (.tupC (.cons (.con (.str "failed")) (.cons (.lstC (.cons (.tupC (.cons (.con (.str "wrong")) (.cons (.var 4) .nil))) .nil)) .nil)))) (.seq (.ret (.con (.bl false))) (.nil)) (.nil)) (.nil)
def r7__law_portals_hold : IR := .seq (.ret (.cmp .Eq (.var 2) (.tupC (.cons (.con (.str "failed")) (.cons (.lstC (.cons (.tupC (.cons (.con (.str "complete")) (.cons (.con (.int 0)) .nil))) (.cons (.tupC (.cons (.con (.str "closed")) .nil)) (.cons (.tupC (.cons (.con (.str "bound")) .nil)) (.cons (.tupC (.cons (.con (.str "wrong")) (.cons (.con (.str "crowded")) .nil))) .nil))))) .nil))))) (.nil)
def r6__law_portals_hold : IR := .seq (.asg (.gN 2) (.mcl "run_batch" [(11, sp_Session_run_batch)] (.var 0) (.cons (.lstC (.cons (.tupC (.cons (.con (.str "run")) (.cons (.con (.str "u")) (.cons (.con (.int 0)) .nil)))) (.cons (.tupC (.cons (.con (.str "close")) (.cons (.con (.str "pa")) .nil))) (.cons (.tupC (.cons (.con (.str "bind")) (.cons (.con (.str "new")) (.cons (.con (.str "s")) (.cons (.tupC (.cons (.con (.int 1)) .nil)) .nil))))) (.cons (.tupC (.cons (.con (.str "bind")) (.cons (.con (.str "pa")) (.cons (.con (.str "none")) (.cons (.tupC (.nil)) .nil))))) .nil))))) .nil))) r7__law_portals_hold
def r5__law_portals_hold : IR := .seq (.fr (.gT 2 (.cons (.gN 3) (.cons (.gN 4) (.nil)))) (.itV (.lstC (.cons (.lstC (.cons (.tupC (.cons (.con (.str "bind")) (.cons (.con (.str "pa")) (.cons (.con (.str "none")) (.cons (.tupC (.cons (.con (.int 1)) (.cons (.con (.int 2)) .nil))) .nil))))) (.cons (.con (.str "taken")) .nil))) (.cons (.lstC (.cons (.tupC (.cons (.con (.str "bind")) (.cons (.con (.str "new")) (.cons (.con (.str "none")) (.cons (.tupC (.nil)) .nil))))) (.cons (.con (.str "crowded")) .nil))) (.cons (.lstC (.cons (.tupC (.cons (.con (.str "bind")) (.cons (.con (.str "new")) (.cons (.con (.str "s")) (.cons (.tupC (.nil)) .nil))))) (.cons (.con (.str "crowded")) .nil))) .nil))))) b1__law_portals_hold) r6__law_portals_hold
def r4__law_portals_hold : IR := .seq (.ifS (.cmp .NotEq (.ix (.ix (.mcl "run_batch" [(11, sp_Session_run_batch)] (.var 0) (.cons (.var 1) .nil)) (.con (.int 1))) (.neg (.con (.int 1)))) (.tupC (.cons (.con (.str "bound")) .nil))) (.seq (.ret (.con (.bl false))) (.nil)) (.nil)) r5__law_portals_hold
def r3__law_portals_hold : IR := .seq (.asg (.gN 1) (.bin .Add (.bin .Add (.var 1) (.cpr [("_law_k", 5)] (.gN 5) (.itR1 (.con (.int 7))) (.nop) (.tupC (.cons (.con (.str "bind")) (.cons (.bin .Add (.con (.str "p")) (.ix (.con (.str "abcdefg")) (.var 5))) (.cons (.con (.str "s")) (.cons (.tupC (.cons (.var 5) .nil)) .nil))))))) (.lstC (.cons (.tupC (.cons (.con (.str "bind")) (.cons (.con (.str "u")) (.cons (.con (.str "b")) (.cons (.tupC (.nil)) .nil))))) .nil)))) r4__law_portals_hold
def r2__law_portals_hold : IR := .seq (.asg (.gN 1) (.lstC (.cons (.tupC (.cons (.con (.str "close")) (.cons (.con (.str "x")) .nil))) (.cons (.tupC (.cons (.con (.str "prepare")) (.cons (.con (.str "s")) (.cons (.con (.str "scan t $1 $1")) .nil)))) (.cons (.tupC (.cons (.con (.str "prepare")) (.cons (.con (.str "b")) (.cons (.con (.str "undo a")) .nil)))) .nil))))) r3__law_portals_hold
def r1__law_portals_hold : IR := .seq (.ifS (.tOr (.cmp .NotEq (.cal "_law_did" sp__law_did7 (.cons (.var 0) (.cons (.con (.str "begin")) (.cons (.tupC (.nil)) .nil)))) (.tupC (.cons (.con (.str "complete")) (.cons (.con (.int 0)) .nil)))) (.tOne (.cmp .NotEq (.cal "_law_did" sp__law_did7 (.cons (.var 0) (.cons (.con (.str "save a")) (.cons (.tupC (.nil)) .nil)))) (.tupC (.cons (.con (.str "complete")) (.cons (.con (.int 0)) .nil)))))) (.seq (.ret (.con (.bl false))) (.nil)) (.nil)) r2__law_portals_hold
def c__law_portals_hold : IR := .seq (.asg (.gN 0) (.nod (fNew "Session") (eNew 11 (spD sp_Session___init__ [.tup []])) (.nil))) r1__law_portals_hold
def N__law_saves_hold : List Str := ["_law_count", "_law_session", "_law_k", "_law_due"]
def q2b1__law_saves_hold : IR := .seq (.ifS (.cmp .NotEq (.cal "_law_did" sp__law_did7 (.cons (.var 1) (.cons (.bin .Add (.con (.str "save ")) (.ix (.con (.str "abc")) (.bin .Mod (.var 2) (.con (.int 3))))) (.cons (.tupC (.nil)) .nil)))) (.var 3)) (.seq (.ret (.con (.bl false))) (.nil)) (.nil)) (.nil)
def q1b1__law_saves_hold : IR := .seq (.ifS (.cmp .GtE (.var 2) (.con (.int 10))) (.seq (.asg (.gN 3) (.tupC (.cons (.con (.str "wrong")) (.cons (.ix (.lstC (.cons (.con (.str "crowded")) (.cons (.con (.str "failed")) .nil))) (.cal "int" spInt (.cons (.cmp .Gt (.var 2) (.con (.int 10))) .nil))) .nil)))) (.nil)) (.nil)) q2b1__law_saves_hold
def b1__law_saves_hold : IR := .seq (.asg (.gN 3) (.tupC (.cons (.con (.str "complete")) (.cons (.con (.int 0)) .nil)))) q1b1__law_saves_hold
def r3__law_saves_hold : IR := .seq (.ret (.orV (.cmp .LtE (.var 0) (.con (.int 10))) (.one (.cmp .Eq (.cal "_law_did" sp__law_did7 (.cons (.var 1) (.cons (.con (.str "undo c")) (.cons (.tupC (.nil)) .nil)))) (.tupC (.cons (.con (.str "complete")) (.cons (.con (.int 0)) .nil))))))) (.nil)
def r2__law_saves_hold : IR := .seq (.fr (.gN 2) (.itR1 (.var 0)) b1__law_saves_hold) r3__law_saves_hold
def r1__law_saves_hold : IR := .seq (.ifS (.cmp .NotEq (.cal "_law_did" sp__law_did7 (.cons (.var 1) (.cons (.con (.str "begin")) (.cons (.tupC (.nil)) .nil)))) (.tupC (.cons (.con (.str "complete")) (.cons (.con (.int 0)) .nil)))) (.seq (.ret (.con (.bl false))) (.nil)) (.nil)) r2__law_saves_hold
def c__law_saves_hold : IR := .seq (.asg (.gN 1) (.nod (fNew "Session") (eNew 11 (spD sp_Session___init__ [.tup []])) (.nil))) r1__law_saves_hold
def N_law9 : List Str := ["_law_script", "_law_session", "_law_key", "_law_k"]
def r6_law9 : IR := .seq (.ret (.cmp .Eq (.mcl "tables" [(11, sp_Session_tables)] (.var 1) (.nil)) (.lstC (.cons (.tupC (.cons (.con (.str "t")) (.cons (.cpr [("_law_k", 3)] (.gN 3) (.itR1 (.con (.int 20))) (.nop) (.tupC (.cons (.var 3) (.cons (.ix (.lstC (.cons (.var 3) (.cons (.con (.str "new")) .nil))) (.cal "int" spInt (.cons (.cmp .Eq (.var 3) (.var 2)) .nil))) .nil)))) .nil))) .nil)))) (.nil)
def r5_law9 : IR := .seq (.ifS (.cmp .NotEq (.cal "_law_did" sp__law_did7 (.cons (.var 1) (.cons (.con (.str "put t $1 'new'")) (.cons (.tupC (.cons (.var 2) .nil)) .nil)))) (.tupC (.cons (.con (.str "complete")) (.cons (.con (.int 1)) .nil)))) (.seq (.ret (.con (.bl false))) (.nil)) (.nil)) r6_law9
def r4_law9 : IR := .seq (.asg (.gN 2) (.bin .Mod (.cal "_law_cell" sp__law_cell (.cons (.var 0) (.cons (.con (.int 3)) .nil))) (.con (.int 20)))) r5_law9
def r3_law9 : IR := .seq (.ifS (.tOr (.cmp .NotEq (.cal "_law_did" sp__law_did7 (.cons (.var 1) (.cons (.con (.str "put t 20 0")) (.cons (.tupC (.nil)) .nil)))) (.tupC (.cons (.con (.str "wrong")) (.cons (.con (.str "full")) .nil)))) (.tOne (.cmp .NotEq (.cal "_law_did" sp__law_did7 (.cons (.var 1) (.cons (.con (.str "put t 'a' 0")) (.cons (.tupC (.nil)) .nil)))) (.tupC (.cons (.con (.str "wrong")) (.cons (.con (.str "full")) .nil)))))) (.seq (.ret (.con (.bl false))) (.nil)) (.nil)) r4_law9
def r2_law9 : IR := .seq (.asg (.gN 1) (.nod (fNew "Session") (eNew 11 sp_Session___init__) (.cons (.lstC (.cons (.tupC (.cons (.con (.str "t")) (.cons (.cpr [("_law_k", 3)] (.gN 3) (.itR1 (.con (.int 20))) (.nop) (.tupC (.cons (.var 3) (.cons (.var 3) .nil)))) .nil))) .nil)) .nil))) r3_law9
def r1_law9 : IR := .seq (.ifS (.tOr (.tNot (.tV (.nod (fCal0 "_law_portals_hold") (eCal0 sp__law_portals_hold) .nil))) (.tOne (.tNot (.tV (.cal "_law_saves_hold" sp__law_saves_hold (.cons (.bin .Mod (.cal "_law_cell" sp__law_cell (.cons (.var 0) (.cons (.con (.int 2)) .nil))) (.con (.int 13))) .nil)))))) (.seq (.ret (.con (.bl false))) (.nil)) (.nil)) r2_law9
def c_law9 : IR := .seq (.ifS (.tOr (.tNot (.tV (.cal "_law_tables_hold" sp__law_tables_hold (.cons (.bin .Mod (.cal "_law_cell" sp__law_cell (.cons (.var 0) (.cons (.con (.int 0)) .nil))) (.con (.int 7))) .nil)))) (.tOne (.tNot (.tV (.cal "_law_named_hold" sp__law_named_hold (.cons (.bin .Mod (.cal "_law_cell" sp__law_cell (.cons (.var 0) (.cons (.con (.int 1)) .nil))) (.con (.int 11))) .nil)))))) (.seq (.ret (.con (.bl false))) (.nil)) (.nil)) r1_law9
end M
end

section
set_option Elab.async false
set_option linter.all false
set_option maxRecDepth 100000
set_option maxHeartbeats 4000000
set_option autoImplicit false
/-! law k09: the batches, by computation. -/
namespace M
open PySem PySem.Spec PyProof.Rows L2
def ch9 (k : Nat) : Str := ⟨#[97 + k]⟩
theorem ab9 : ∀ k : Fin 6, atI (Str.ofString "abcdef").cps.toList (k.val : Int) = some (97 + k.val) := by decide +kernel
theorem ab9j : ∀ k : Fin 10, atI (Str.ofString "abcdefghij").cps.toList (k.val : Int) = some (97 + k.val) := by decide +kernel
theorem ab9g : ∀ k : Fin 7, atI (Str.ofString "abcdefg").cps.toList (k.val : Int) = some (97 + k.val) := by decide +kernel
theorem ab9c : ∀ k : Fin 13, atI (Str.ofString "abc").cps.toList ((k.val : Int).fmod 3) = some (97 + k.val % 3) := by decide +kernel
/-! tables -/
def cr9 (k : Nat) : Str := Str.ofString "create " ++ ch9 k
def T9 : Nat → SS
  | 0 => newS []
  | k + 1 => (batchA (T9 k) (cmds7 (cr9 k) [])).1
theorem T9_step : ∀ k : Fin 6, (batchA (T9 k.val) (cmds7 (cr9 k.val) [])).2[4]? = some (if 4 ≤ k.val then .wrong "crowded" else .complete 0) := by decide +kernel
def T9e (n : Nat) : SS := if 0 < n then (batchA (T9 n) (cmds7 "create a" [])).1 else T9 n
theorem T9_end : ∀ n : Fin 7, 0 < n.val → (batchA (T9 n.val) (cmds7 "create a" [])).2[4]? = some (.wrong "exists") := by decide +kernel
def nm9 (n : Nat) : List Str := (["a", "b", "c", "d"] : List Str).take n
theorem T9_names : ∀ n : Fin 7, (T9e n.val).c.store.map (·.1) = nm9 n.val := by decide +kernel
/-! statements and portals -/
def sn9 (k : Nat) : Str := Str.ofString "s" ++ ch9 k
def pn9 (k : Nat) : Str := Str.ofString "p" ++ ch9 k
def N9 : Nat → SS
  | 0 => newS []
  | k + 1 => (batchA (N9 k) [.prepare (sn9 k) "total t"]).1
theorem N9_step : ∀ k : Fin 10, (batchA (N9 k.val) [.prepare (sn9 k.val) "total t"]).2 = [if 8 ≤ k.val then .wrong "crowded" else .prepared 0] := by decide +kernel
def N9a (n : Nat) : SS := if 0 < n then (batchA (N9 n) [.prepare "sa" "?"]).1 else N9 n
theorem N9_a : ∀ n : Fin 11, 0 < n.val → (batchA (N9 n.val) [.prepare "sa" "?"]).2 = [.wrong "taken"] := by decide +kernel
def N9b (n : Nat) : SS := if 7 < n then (batchA (N9a n) [.prepare "sz" "?"]).1 else N9a n
theorem N9_b : ∀ n : Fin 11, 7 < n.val → (batchA (N9a n.val) [.prepare "sz" "?"]).2 = [.wrong "crowded"] := by decide +kernel
def N9c (n : Nat) : List Cmd := [.forget "sa", .prepare "sa" "scan t $1 $1"] ++ (List.range n).map fun k : Nat => .bind (pn9 k) "sa" [.inl k]
def N9d (n : Nat) : List Rp := if 8 < n then [.closed, .prepared 1] ++ (List.range (min n 8)).map (fun _ => .bound) ++ [.wrong "crowded"] ++ (List.range (n - 9)).map (fun _ => .skipped) else [.closed, .prepared 1] ++ (List.range (min n 8)).map (fun _ => .bound)
theorem N9_c : ∀ n : Fin 11, (batchA (N9b n.val) (N9c n.val)).2 = N9d n.val := by decide +kernel
/-! portals in a transaction -/
def B9 : SS := (batchA (newS []) (cmds7 "begin" [])).1
theorem B9_0 : (batchA (newS []) (cmds7 "begin" [])).2[4]? = some (.complete 0) := by decide +kernel
def B9s : SS := (batchA B9 (cmds7 "save a" [])).1
theorem B9_1 : (batchA B9 (cmds7 "save a" [])).2[4]? = some (.complete 0) := by decide +kernel
def B9c : List Cmd := [.close "x", .prepare "s" "scan t $1 $1", .prepare "b" "undo a"] ++ ((List.range 7).map fun k : Nat => .bind (pn9 k) "s" [.inl k]) ++ [.bind "u" "b" []]
def B9d : SS := (batchA B9s B9c).1
theorem B9_2 : (batchA B9s B9c).2.getLast? = some .bound := by decide +kernel
def B9e1 : List Cmd := [.bind "pa" "none" [.inl 1, .inl 2]]
def B9e2 : List Cmd := [.bind "new" "none" []]
def B9e3 : List Cmd := [.bind "new" "s" []]
def B9f1 : SS := (batchA B9d B9e1).1
def B9f2 : SS := (batchA B9f1 B9e2).1
def B9f3 : SS := (batchA B9f2 B9e3).1
theorem B9_3 : batchA B9d B9e1 = (B9f1, [.wrong "taken"]) ∧ B9f1.c.mode = "failed" := by decide +kernel
theorem B9_4 : batchA B9f1 B9e2 = (B9f2, [.wrong "crowded"]) ∧ B9f2.c.mode = "failed" := by decide +kernel
theorem B9_5 : batchA B9f2 B9e3 = (B9f3, [.wrong "crowded"]) ∧ B9f3.c.mode = "failed" := by decide +kernel
def B9g : List Cmd := [.run "u" 0, .close "pa", .bind "new" "s" [.inl 1], .bind "pa" "none" []]
theorem B9_6 : (batchA B9f3 B9g).2 = [.complete 0, .closed, .bound, .wrong "crowded"] ∧ (batchA B9f3 B9g).1.c.mode = "failed" := by decide +kernel
/-! savepoints -/
def sv9 (k : Nat) : Str := Str.ofString "save " ++ ch9 (k % 3)
def V9 : Nat → SS
  | 0 => B9
  | k + 1 => (batchA (V9 k) (cmds7 (sv9 k) [])).1
theorem V9_step : ∀ k : Fin 12, (batchA (V9 k.val) (cmds7 (sv9 k.val) [])).2[4]? = some (if 10 ≤ k.val then .wrong (if 10 < k.val then "failed" else "crowded") else .complete 0) := by decide +kernel
theorem V9_end : ∀ n : Fin 13, 10 < n.val → (batchA (V9 n.val) (cmds7 "undo c" [])).2[4]? = some (.complete 0) := by decide +kernel
/-! rows -/
def rw9 : List Row := (List.range 20).map fun k : Nat => (.inl k, .inl k)
def st9 : Store := [(Str.ofString "t", rw9)]
def R9a : SS := (batchA (newS st9) (cmds7 "put t 20 0" [])).1
theorem R9_0 : (batchA (newS st9) (cmds7 "put t 20 0" [])).2[4]? = some (.wrong "full") := by decide +kernel
def R9b : SS := (batchA R9a (cmds7 "put t 'a' 0" [])).1
theorem R9_1 : (batchA R9a (cmds7 "put t 'a' 0" [])).2[4]? = some (.wrong "full") := by decide +kernel
def R9c (k : Nat) : SS := (batchA R9b (cmds7 "put t $1 'new'" [.inl k])).1
theorem R9_2 : ∀ k : Fin 20, (batchA R9b (cmds7 "put t $1 'new'" [.inl k.val])).2[4]? = some (.complete 1) := by decide +kernel
def rn9 (k : Nat) : List Row := (List.range 20).map fun j : Nat => (.inl j, if j = k then .inr "new" else .inl j)
theorem R9_3 : ∀ k : Fin 20, (R9c k.val).c.store = [(Str.ofString "t", rn9 k.val)] := by decide +kernel
theorem st9_rise : rw9.Pairwise fun a b => ltK a.1 b.1 = true := by decide +kernel
end M
end

section
set_option Elab.async false
set_option linter.all false
set_option maxRecDepth 100000
set_option maxHeartbeats 4000000
set_option autoImplicit false
namespace M
open PySem PySem.Spec PyProof.Rows L2
open SX (S S_len S_cat)
theorem le5 : 5 ≤ sizeLine := by rw [sizeLine_eq]; omega
theorem le4 : 4 ≤ sizeLine := by rw [sizeLine_eq]; omega
theorem nilSS_ok : okSS (newS []) where
  c := ⟨⟨Nat.zero_le _, fun t m => by cases m⟩, ⟨Nat.zero_le _, fun t m => by cases m⟩, .inl rfl, Nat.zero_le _, fun t m => by cases m⟩
  sl := Nat.zero_le _
  st := fun t m => by cases m
  pl := Nat.zero_le _
  pn := List.nodup_nil
  po := fun t m => by cases m
theorem HW.none {μ : Sto} (h : μ.wf) : HW μ [] := ⟨h, List.nodup_nil, fun p m => by cases m⟩
theorem new0 {μ : Sto} {F : Cells} {Q : Post} {E : XPost} (h : HW μ F) (hq : ∀ μ' R', HW μ' (allC μ.next R' ++ F) → R'.abs = newS [] → μ.next + 1 ≤ μ'.next → Q .non μ') : sp_Session___init__ [.obj μ.next, .tup []] (μ.new (.ins 11 [])) Q E :=
  ⟨F, [], [], HW.new (A := []) h rfl, .inl rfl, trivial, ⟨Nat.zero_le _, fun t m => by cases m⟩, List.nodup_nil, hq⟩
theorem did_ap {μ : Sto} {j : Nat} {R : RS} {F : Cells} {z : Str} {vs : List Key} {s : SS} {r : Rp} {Q : Post} {E : XPost} (hh : HW μ (allC j R ++ F)) (hr : R.abs = s) (hok : okSS s) (hz : z.length ≤ 1000) (hv : vs.length ≤ 1000) (hb : (batchA s (cmds7 z vs)).2[4]? = some r)
    (h : ∀ μ' R', HW μ' (allC j R' ++ F) → R'.abs = (batchA s (cmds7 z vs)).1 → okSS (batchA s (cmds7 z vs)).1 → μ.next ≤ μ'.next → Q (repD r) μ') : sp__law_did7 [.obj j, .str z, tupK vs] μ Q E := by
  subst hr
  exact ⟨R, F, vs, r, hh, hok, rfl, hz, hv, hb, fun μ' R' hh' hr' hn' => h μ' R' hh' hr' (batchA_ok hok) hn'⟩
theorem runs_ap {μ : Sto} {j : Nat} {R : RS} {F : Cells} {s : SS} {cs : List Cmd} {Q : Post} {E : XPost} (hh : HW μ (allC j R ++ F)) (hr : R.abs = s) (hok : okSS s) (hc : ∀ c ∈ cs, cmdOk c) (hl : cs.length ≤ 1000)
    (h : ∀ μ' R', HW μ' (allC j R' ++ F) → R'.abs = (batchA s cs).1 → okSS (batchA s cs).1 → μ.next ≤ μ'.next → Q (outD (batchA s cs)) μ') : sp_Session_run_batch [.obj j, cmdsD cs] μ Q E := by
  subst hr
  exact run_ap hh hok hc hl fun μ' R' hh' hr' hn' => h μ' R' hh' hr' (batchA_ok hok) hn'
theorem eqN_key (n : Nat) (k : Key) : eqN n (keyD k) = true := by cases k <;> cases n <;> rfl
theorem eqN_tupK (n : Nat) (l : List Key) : eqN (n + 1) (tupK l) = true := by
  show (l.map keyD).all (eqN n) = true
  rw [List.all_map, List.all_eq_true]
  exact fun k _ => eqN_key n k
theorem eqN_rsD (n : Nat) (l : List (List Key)) : eqN (n + 2) (rsD l) = true := by
  show (l.map tupK).all (eqN (n + 1)) = true
  rw [List.all_map, List.all_eq_true]
  exact fun r _ => eqN_tupK n _
theorem eqN_rep (n : Nat) (r : Rp) : eqN (n + 3) (repD r) = true := by
  cases r with
  | rows l m =>
    show (eqN (n + 2) (.str "rows") && (eqN (n + 2) (rsD l) && (eqN (n + 2) (.bl m) && true))) = true
    rw [eqN_rsD n]
    rfl
  | _ => rfl
theorem eqN_reps (n : Nat) (l : List Rp) : eqN (n + 4) (.lst (l.map repD)) = true := by
  show (l.map repD).all (eqN (n + 3)) = true
  rw [List.all_map, List.all_eq_true]
  exact fun r _ => eqN_rep n r
theorem eqN_out (n : Nat) (r : SS × List Rp) : eqN (n + 5) (outD r) = true := by
  show (eqN (n + 4) (.str r.1.c.mode) && (eqN (n + 4) (.lst (r.2.map repD)) && true)) = true
  rw [eqN_reps n]
  rfl
theorem ne_same {d : D} {μ : Sto} {Q : Bool → Prop} (hd : drf d μ = d) (h : eqOk d = true) (q : Q false) : cmpD .NotEq d d μ Q := by
  show eqOk (drf d μ) = true ∧ eqOk (drf d μ) = true ∧ Q (!deq (drf d μ) (drf d μ))
  rw [hd, h, show deq d d = true from SeqAt.eqv_refl_plain _ (eqN_ok 12 _ h).2.1]
  exact ⟨rfl, rfl, q⟩
theorem eq_same {d : D} {μ : Sto} {Q : Bool → Prop} (hd : drf d μ = d) (h : eqOk d = true) (q : Q true) : cmpD .Eq d d μ Q := by
  show eqOk (drf d μ) = true ∧ eqOk (drf d μ) = true ∧ Q (deq (drf d μ) (drf d μ))
  rw [hd, h, show deq d d = true from SeqAt.eqv_refl_plain _ (eqN_ok 12 _ h).2.1]
  exact ⟨rfl, rfl, q⟩
theorem drf_repD (r : Rp) (μ : Sto) : drf (repD r) μ = repD r := by cases r <;> rfl
theorem ne_rep {r : Rp} {μ : Sto} {Q : Bool → Prop} (q : Q false) : cmpD .NotEq (repD r) (repD r) μ Q := ne_same (drf_repD r μ) (eqN_rep 9 r) q
theorem eq_rep9 {r : Rp} {μ : Sto} {Q : Bool → Prop} (q : Q true) : cmpD .Eq (repD r) (repD r) μ Q := eq_same (drf_repD r μ) (eqN_rep 9 r) q
theorem ne_reps {l : List Rp} {μ : Sto} {Q : Bool → Prop} (q : Q false) : cmpD .NotEq (.lst (l.map repD)) (.lst (l.map repD)) μ Q := ne_same rfl (eqN_reps 8 l) q
theorem eq_reps {l : List Rp} {μ : Sto} {Q : Bool → Prop} (q : Q true) : cmpD .Eq (.lst (l.map repD)) (.lst (l.map repD)) μ Q := eq_same rfl (eqN_reps 8 l) q
theorem ix_str {s : Str} {k : Int} {c : Nat} {μ : Sto} {Q : Post} (h : atI s.cps.toList k = some c) (hl : s.length ≤ 1000) (q : Q (.str ⟨#[c]⟩) μ) : ixD (.str s) (.int k) μ Q := by
  have := sz1000
  simp only [ixD, h]
  exact ⟨Nat.le_trans hl this, q⟩
theorem add_str {a b : Str} {μ : Sto} {Q : Post} (hl : a.length + b.length ≤ 1000) (q : Q (.str (a ++ b)) μ) : binD .Add (.str a) (.str b) μ Q := ⟨Nat.le_trans hl sz1000, q⟩
section
variable {a b : Int} {μ : Sto} {Q : Bool → Prop}
theorem cmp_gt_int : cmpD .Gt (.int a) (.int b) μ Q = Q (decide (b < a)) := rfl
theorem cmp_ge_int : cmpD .GtE (.int a) (.int b) μ Q = Q (decide (b ≤ a)) := rfl
theorem cmp_lt_int : cmpD .Lt (.int a) (.int b) μ Q = Q (decide (a < b)) := rfl
theorem cmp_le_int : cmpD .LtE (.int a) (.int b) μ Q = Q (decide (a ≤ b)) := rfl
end
theorem T9_ok : ∀ n, okSS (T9 n)
  | 0 => nilSS_ok
  | n + 1 => batchA_ok (T9_ok n)
theorem cr9_len : ∀ k : Fin 6, (cr9 k.val).length ≤ 1000 := by decide +kernel
theorem w__law_tables_hold : ∀ ds μ Q QX, μ.wf → objBs μ.next ds = true → sp__law_tables_hold ds μ Q QX → ds.length = 1 ∧ wpS c__law_tables_hold (startE N__law_tables_hold ds) μ (outs μ.next Q QX) := by
  intro ds μ Q QX hw ho h
  unfold sp__law_tables_hold at h
  split at h
  · rename_i n0
    obtain ⟨h0, h7, h1⟩ := h
    refine ⟨rfl, ?_⟩
    have := sz1000
    obtain ⟨n, rfl⟩ : ∃ m : Nat, n0 = m := ⟨n0.toNat, by omega⟩
    simp [startE, wpS, wpT, wpE, wpA, wpI, wpG, wpGs, wpOpt, outs, wipeE, ePar, c__law_tables_hold, N__law_tables_hold, eNew, spD]
    refine new0 (.none hw) fun μ1 R1 hh1 hr1 hn1 => ⟨rfl, ?_⟩
    simp [startE, wpS, wpT, wpE, wpA, wpI, wpG, wpGs, wpOpt, outs, wipeE, ePar, r1__law_tables_hold]
    refine ⟨by omega, ?_⟩
    refine for_gen (fun i δ μ' => ∃ R o2 o3 o4, HW μ' (allC μ.next R ++ []) ∧ R.abs = T9 i ∧ μ.next ≤ μ'.next ∧ δ = [some (.int n), some (.obj μ.next), o2, o3, o4]) ⟨R1, none, none, none, hh1, hr1, by omega, rfl⟩ ?_ ?_
    · rintro i x LW hx hLW δ μ' ⟨R, o2, o3, o4, hh, hr, hn, rfl⟩
      obtain ⟨hi, rfl⟩ := intsD_at hx
      refine ⟨trivial, ?_⟩
      have hi6 : i < 6 := by omega
      have rest : ∀ (O : Outs), O.nx = LW → ∀ r : Rp, (batchA (T9 i) (cmds7 (cr9 i) [])).2[4]? = some r → wpS q2b1__law_tables_hold [some (.int n), some (.obj μ.next), some (.int i), some (repD r), o4] μ' O := by
        intro O hO r hb
        simp [startE, wpS, wpT, wpE, wpA, wpI, wpG, wpGs, wpOpt, outs, wipeE, ePar, q2b1__law_tables_hold]
        refine ix_str (ab9 ⟨i, hi6⟩) (by decide) ?_
        refine add_str (by show (Str.ofString "create ").length + 1 ≤ 1000; decide +kernel) ?_
        refine did_ap (z := cr9 i) (vs := []) hh hr (T9_ok i) (cr9_len ⟨i, hi6⟩) (Nat.zero_le _) hb fun μ3 R3 hh3 hr3 hok3 hn3 => ?_
        refine ne_rep ?_
        rw [if_neg (by simp), hO]
        exact hLW _ _ ⟨R3, _, _, _, hh3, hr3, Nat.le_trans hn hn3, rfl⟩
      have hb := T9_step ⟨i, hi6⟩
      simp [startE, wpS, wpT, wpE, wpA, wpI, wpG, wpGs, wpOpt, outs, wipeE, ePar, b1__law_tables_hold, two_le, q1b1__law_tables_hold, cmp_gt_int, cmp_ge_int, cmp_le_int, cmp_lt_int]
      by_cases h4 : 4 ≤ i
      · rw [if_pos (by omega)]
        rw [if_pos h4] at hb
        exact rest _ rfl _ hb
      · rw [if_neg (by omega)]
        rw [if_neg h4] at hb
        exact rest _ rfl _ hb
    · rintro δ μ' ⟨R, o2, o3, o4, hh, hr, hn, rfl⟩
      rw [intsD_len] at hr

      refine ⟨trivial, ?_⟩
      have rest : ∀ (O : Outs), O.rt = finP μ.next Q → ∀ μ' R, HW μ' (allC μ.next R ++ []) → R.abs = T9e n → μ.next ≤ μ'.next → wpS r3__law_tables_hold [some (.int n), some (.obj μ.next), o2, o3, o4] μ' O := by
        intro O hO μ' R hh hr hn
        have hok : okSS R.abs := by
          rw [hr]
          unfold T9e
          split
          · exact batchA_ok (T9_ok n)
          · exact T9_ok n
        have m1 := met_s (sp := sp_Session_tables) (m := "tables") hh.toC.core.j rfl
        simp [startE, wpS, wpT, wpE, wpA, wpI, wpG, wpGs, wpOpt, outs, wipeE, ePar, r3__law_tables_hold, m1, le4]
        refine ⟨R, portsC R ++ [], hh.toC, hok.c, ?_⟩
        unfold tabsD
        dsimp only
        rw [it_lst]
        have e5 : R.store.map (·.1) = nm9 n := by
          have := T9_names ⟨n, by omega⟩
          show R.abs.c.store.map (·.1) = _
          rw [hr]
          exact this
        have hl4 : R.store.length ≤ 4 := hok.c.1.1
        refine loopC_sel (fun t : Str × List Row => D.tup [.str t.1, .lst (t.2.map rowD)]) (fun t => D.str t.1) (fun _ => true) trivial (fun t m N hN => ?_) (by omega) ?_
        · rw [if_pos rfl] at hN
          rw [ixt_0]
          exact hN
        · rw [List.filter_eq_self.mpr fun _ _ => rfl]
          have e6 : (R.store.map fun t => D.str t.1) = (nm9 n).map D.str := by
            rw [← e5, List.map_map]
            rfl
          rw [e6]
          simp [startE, wpS, wpT, wpE, wpA, wpI, wpG, wpGs, wpOpt, outs, wipeE, ePar, slD, l_lst, cut_to]
          have e7 : ([D.str "a", D.str "b", D.str "c", D.str "d"] : List D).take n = (nm9 n).map D.str := by
            unfold nm9
            rw [List.map_take]
            rfl
          rw [e7]
          refine eq_same rfl ?_ ?_
          · show ((nm9 n).map D.str).all (eqN 11) = true
            rw [List.all_map, List.all_eq_true]
            exact fun _ _ => rfl
          · rw [hO]
            exact fin_all hh.wf hn rfl (h1 _ hh.wf hn)
      simp [startE, wpS, wpT, wpE, wpA, wpI, wpG, wpGs, wpOpt, outs, wipeE, ePar, r2__law_tables_hold, cmp_gt_int, cmp_ge_int, cmp_le_int, cmp_lt_int]
      by_cases hp : 0 < n
      · rw [if_pos (by omega)]
        simp [startE, wpS, wpT, wpE, wpA, wpI, wpG, wpGs, wpOpt, outs, wipeE, ePar, two_le]
        refine did_ap (vs := []) hh hr (T9_ok n) (by decide +kernel) (Nat.zero_le _) (T9_end ⟨n, by omega⟩ hp) fun μ3 R3 hh3 hr3 hok3 hn3 => ?_
        refine ne_rep (r := .wrong "exists") ?_
        rw [if_neg (by simp)]
        refine rest _ rfl _ R3 hh3 ?_ (Nat.le_trans hn hn3)
        unfold T9e
        rw [if_pos hp]
        exact hr3
      · rw [if_neg (by omega)]
        refine rest _ rfl _ R hh ?_ hn
        unfold T9e
        rw [if_neg hp]
        exact hr
  · exact h.elim
end M
end

section
set_option Elab.async false
set_option linter.all false
set_option maxRecDepth 100000
set_option maxHeartbeats 4000000
set_option autoImplicit false
namespace M
open PySem PySem.Spec PyProof.Rows L2
open SX (S S_len S_cat)
theorem N9_ok : ∀ n, okSS (N9 n)
  | 0 => nilSS_ok
  | n + 1 => batchA_ok (N9_ok n)
theorem N9a_ok (n : Nat) : okSS (N9a n) := by
  unfold N9a
  split
  · exact batchA_ok (N9_ok n)
  · exact N9_ok n
theorem N9b_ok (n : Nat) : okSS (N9b n) := by
  unfold N9b
  split
  · exact batchA_ok (N9a_ok n)
  · exact N9a_ok n
/-- the comprehensions over a range whose items are plain -/
theorem loopC_rng {turn : D → Sto → (Option D → Sto → Prop) → Prop} {gd : Sto → Prop} {fin : List D → Sto → Prop} {n : Nat} (f : Nat → D) {μ : Sto} (hg : gd μ) (h : ∀ k : Nat, k < n → ∀ N : Option D → Sto → Prop, N (some (f k)) μ → turn (.int k) μ N) (hl : n ≤ 1000) (hf : fin ((List.range n).map f) μ) : loopC turn gd fin (intsD 0 n) [] μ := by
  have ei : intsD 0 n = (List.range n).map fun k : Nat => D.int k := by
    unfold intsD
    refine List.map_congr_left fun k _ => ?_
    rw [Int.zero_add]
  rw [ei]
  refine loopC_sel (fun k : Nat => D.int k) f (fun _ => true) hg (fun k m N hN => h k (List.mem_range.mp m) N (by rw [if_pos rfl] at hN; exact hN)) (by have := sz1000; simp; omega) ?_
  rw [List.filter_eq_self.mpr fun _ _ => rfl]
  exact hf
theorem w__law_named_hold : ∀ ds μ Q QX, μ.wf → objBs μ.next ds = true → sp__law_named_hold ds μ Q QX → ds.length = 1 ∧ wpS c__law_named_hold (startE N__law_named_hold ds) μ (outs μ.next Q QX) := by
  intro ds μ Q QX hw ho h
  unfold sp__law_named_hold at h
  split at h
  · rename_i n0
    obtain ⟨h0, h7, h1⟩ := h
    refine ⟨rfl, ?_⟩
    have := sz1000
    obtain ⟨n, rfl⟩ : ∃ m : Nat, n0 = m := ⟨n0.toNat, by omega⟩
    simp [startE, wpS, wpT, wpE, wpA, wpI, wpG, wpGs, wpOpt, outs, wipeE, ePar, c__law_named_hold, N__law_named_hold, eNew, spD]
    refine new0 (.none hw) fun μ1 R1 hh1 hr1 hn1 => ⟨rfl, ?_⟩
    simp [startE, wpS, wpT, wpE, wpA, wpI, wpG, wpGs, wpOpt, outs, wipeE, ePar, r1__law_named_hold]
    refine ⟨by omega, ?_⟩
    refine for_gen (fun i δ μ' => ∃ R o2 o6, HW μ' (allC μ.next R ++ []) ∧ R.abs = N9 i ∧ μ.next ≤ μ'.next ∧ δ = [some (.int n), some (.obj μ.next), o2, none, none, none, o6]) ⟨R1, none, none, hh1, hr1, by omega, rfl⟩ ?_ ?_
    · rintro i x LW hx hLW δ μ' ⟨R, o2, o6, hh, hr, hn, rfl⟩
      obtain ⟨hi, rfl⟩ := intsD_at hx
      refine ⟨trivial, ?_⟩
      have hi6 : i < 10 := by omega
      have m1 := met_s (sp := sp_Session_run_batch) (m := "run_batch") hh.toC.core.j rfl
      simp [startE, wpS, wpT, wpE, wpA, wpI, wpG, wpGs, wpOpt, outs, wipeE, ePar, b1__law_named_hold, two_le, one_le, three_le, m1]
      refine ix_str (ab9j ⟨i, hi6⟩) (by decide) ?_
      refine add_str (by show (Str.ofString "s").length + 1 ≤ 1000; decide +kernel) ?_
      simp [startE, wpS, wpT, wpE, wpA, wpI, wpG, wpGs, wpOpt, outs, wipeE, ePar, two_le, one_le, three_le]
      have hb := N9_step ⟨i, hi6⟩
      refine runs_ap (cs := [.prepare (sn9 i) "total t"]) hh hr (N9_ok i) (fun c m => ?_) (by show 1 ≤ 1000; decide) fun μ3 R3 hh3 hr3 hok3 hn3 => ?_
      · rw [List.mem_singleton.mp m]
        show (Str.ofString "total t").length ≤ 1000
        decide +kernel
      · unfold outD
        rw [ixt_1, hb]
        have rest : ∀ (O : Outs), O.nx = LW → wpS q1b1__law_named_hold [some (.int n), some (.obj μ.next), some (.int i), none, none, none, some (.lst ([if 8 ≤ i then Rp.wrong "crowded" else .prepared 0].map repD))] μ3 O := by
          intro O hO
          simp [startE, wpS, wpT, wpE, wpA, wpI, wpG, wpGs, wpOpt, outs, wipeE, ePar, q1b1__law_named_hold, two_le, one_le, cmp_gt_int, cmp_ge_int, cmp_le_int, cmp_lt_int, spInt, ixD, sq_lst]
          have e : atI [D.lst [.tup [.str "prepared", .int 0]], D.lst [.tup [.str "wrong", .str "crowded"]]] (if (8 : Int) ≤ i then 1 else 0) = some (.lst ([if 8 ≤ i then Rp.wrong "crowded" else .prepared 0].map repD)) := by
            by_cases h8 : 8 ≤ i
            · rw [if_pos (by omega), if_pos h8]
              rfl
            · rw [if_neg (by omega), if_neg h8]
              rfl
          rw [e]
          refine ne_reps (l := [if 8 ≤ i then Rp.wrong "crowded" else .prepared 0]) ?_
          rw [if_neg (by simp), hO]
          exact hLW _ _ ⟨R3, _, _, hh3, hr3, Nat.le_trans hn hn3, rfl⟩
        exact rest _ rfl
    · rintro δ μ' ⟨R, o2, o6, hh, hr, hn, rfl⟩
      rw [intsD_len] at hr

      refine ⟨trivial, ?_⟩
      have rest2 : ∀ (O : Outs), O.rt = finP μ.next Q → ∀ μ' R, HW μ' (allC μ.next R ++ []) → R.abs = N9b n → μ.next ≤ μ'.next → wpS r4__law_named_hold [some (.int n), some (.obj μ.next), o2, none, none, none, o6] μ' O := by
        intro O hO μ' R hh hr hn
        have m1 := met_s (sp := sp_Session_run_batch) (m := "run_batch") hh.toC.core.j rfl
        simp [startE, wpS, wpT, wpE, wpA, wpI, wpG, wpGs, wpOpt, outs, wipeE, ePar, r4__law_named_hold, two_le, three_le, r5__law_named_hold]
        refine ⟨by omega, ?_⟩
        refine loopC_rng (fun k => cmdD (.bind (pn9 k) "sa" [.inl k])) trivial (fun k hk N hN => ?_) (by omega) ?_
        · refine ix_str (ab9j ⟨k, by omega⟩) (by decide) ?_
          refine add_str (by show (Str.ofString "p").length + 1 ≤ 1000; decide +kernel) ?_
          simp [startE, wpS, wpT, wpE, wpA, wpI, wpG, wpGs, wpOpt, outs, wipeE, ePar, one_le, le4]
          exact hN
        · rw [bin_addL]
          refine ⟨by simp; omega, ?_⟩
          simp [startE, wpS, wpT, wpE, wpA, wpI, wpG, wpGs, wpOpt, outs, wipeE, ePar, r6__law_named_hold, m1]
          have ec : [D.tup [.str "forget", .str "sa"], D.tup [.str "prepare", .str "sa", .str "scan t $1 $1"]] ++ (List.range n).map (fun k => cmdD (.bind (pn9 k) "sa" [.inl k])) = (N9c n).map cmdD := by
            unfold N9c
            rw [List.map_append, List.map_map]
            rfl
          have hb := N9_c ⟨n, by omega⟩
          have hlen : (N9c n).length ≤ 1000 := by
            unfold N9c
            simp
            omega
          show sp_Session_run_batch [.obj μ.next, .lst ([D.tup [.str "forget", .str "sa"], D.tup [.str "prepare", .str "sa", .str "scan t $1 $1"]] ++ (List.range n).map (fun k => cmdD (.bind (pn9 k) "sa" [.inl k])))] _ _ _
          rw [ec]
          refine runs_ap (cs := N9c n) hh hr (N9b_ok n) (fun c m => ?_) hlen fun μ3 R3 hh3 hr3 hok3 hn3 => ?_
          · unfold N9c at m
            rcases List.mem_append.mp m with m | m
            · simp only [List.mem_cons, List.not_mem_nil, or_false] at m
              rcases m with rfl | rfl
              · trivial
              · show (Str.ofString "scan t $1 $1").length ≤ 1000
                decide +kernel
            · obtain ⟨k, _, rfl⟩ := List.mem_map.mp m
              exact (by decide : 1 ≤ 1000)
          · unfold outD
            rw [ixt_1, hb]
            have rest : ∀ o2 o3 (O : Outs), O.rt = finP μ.next Q → wpS r7__law_named_hold [some (.int n), some (.obj μ.next), o2, o3, some (.lst ((N9d n).map repD)), none, o6] μ3 O := by
              intro o2 o3 O hO
              simp [startE, wpS, wpT, wpE, wpA, wpI, wpG, wpGs, wpOpt, outs, wipeE, ePar, r7__law_named_hold, one_le, two_le, spMin2]
              have emin : (if (8 : Int) < n then (8 : Int) else n) = ((min n 8 : Nat) : Int) := by
                by_cases h8 : 8 < n
                · rw [if_pos (by omega)]
                  omega
                · rw [if_neg (by omega)]
                  omega
              rw [emin]
              refine ⟨by omega, by omega, ?_⟩
              rw [Int.toNat_natCast]
              refine loopC_rng (fun k => repD .bound) trivial (fun k hk N hN => ?_) (by omega) ?_
              · exact hN
              · rw [bin_addL]
                refine ⟨by simp; omega, ?_⟩
                simp [startE, wpS, wpT, wpE, wpA, wpI, wpG, wpGs, wpOpt, outs, wipeE, ePar, r8__law_named_hold, cmp_gt_int, cmp_ge_int, cmp_le_int, cmp_lt_int]
                have eA : [D.tup [.str "closed"], D.tup [.str "prepared", .int 1]] ++ (List.range (min n 8)).map (fun _ => repD .bound) = ([Rp.closed, .prepared 1] ++ (List.range (min n 8)).map (fun _ => Rp.bound)).map repD := by
                  rw [List.map_append, List.map_map]
                  rfl
                have fin9 : ∀ o2 o5 (O : Outs), O.rt = finP μ.next Q → o5 = D.lst ((N9d n).map repD) → wpS r9__law_named_hold [some (.int n), some (.obj μ.next), o2, o3, some (.lst ((N9d n).map repD)), some o5, o6] μ3 O := by
                  rintro o2 o5 O hO rfl
                  simp [startE, wpS, wpT, wpE, wpA, wpI, wpG, wpGs, wpOpt, outs, wipeE, ePar, r9__law_named_hold]
                  refine eq_reps ?_
                  rw [hO]
                  exact fin_all hh3.wf (Nat.le_trans hn hn3) rfl (h1 _ hh3.wf (Nat.le_trans hn hn3))
                by_cases h8 : 8 < n
                · rw [if_pos (by omega)]
                  simp [startE, wpS, wpT, wpE, wpA, wpI, wpG, wpGs, wpOpt, outs, wipeE, ePar, two_le, one_le]
                  rw [bin_addL]
                  refine ⟨by simp; omega, ?_⟩
                  simp [startE, wpS, wpT, wpE, wpA, wpI, wpG, wpGs, wpOpt, outs, wipeE, ePar, binD]
                  refine ⟨by omega, by omega, ?_⟩
                  have e9 : ((n : Int) - 9).toNat = n - 9 := by omega
                  rw [e9]
                  refine loopC_rng (fun k => repD .skipped) trivial (fun k hk N hN => ?_) (by omega) ?_
                  · exact hN
                  · refine ⟨by simp [lm_lst]; omega, ?_⟩
                    refine fin9 _ _ _ hO ?_
                    unfold N9d
                    rw [if_pos h8]
                    simp only [List.map_append, List.map_map]
                    rfl
                · rw [if_neg (by omega)]
                  refine fin9 _ _ _ hO ?_
                  unfold N9d
                  rw [if_neg h8]
                  simp only [List.map_append, List.map_map]
                  rfl
            exact rest _ _ _ hO
      have rest1 : ∀ (O : Outs), O.rt = finP μ.next Q → ∀ μ' R, HW μ' (allC μ.next R ++ []) → R.abs = N9a n → μ.next ≤ μ'.next → wpS r3__law_named_hold [some (.int n), some (.obj μ.next), o2, none, none, none, o6] μ' O := by
        intro O hO μ' R hh hr hn
        have m1 := met_s (sp := sp_Session_run_batch) (m := "run_batch") hh.toC.core.j rfl
        simp [startE, wpS, wpT, wpE, wpA, wpI, wpG, wpGs, wpOpt, outs, wipeE, ePar, r3__law_named_hold, cmp_gt_int, cmp_ge_int, cmp_le_int, cmp_lt_int]
        by_cases hp : 7 < n
        · rw [if_pos (by omega)]
          simp [startE, wpS, wpT, wpE, wpA, wpI, wpG, wpGs, wpOpt, outs, wipeE, ePar, two_le, one_le, three_le, m1]
          refine runs_ap (cs := [.prepare "sz" "?"]) hh hr (N9a_ok n) (fun c m => ?_) (by show 1 ≤ 1000; decide) fun μ3 R3 hh3 hr3 hok3 hn3 => ?_
          · rw [List.mem_singleton.mp m]
            show (Str.ofString "?").length ≤ 1000
            decide +kernel
          · unfold outD
            rw [ixt_1, N9_b ⟨n, by omega⟩ hp]
            refine ne_reps (l := [.wrong "crowded"]) ?_
            rw [if_neg (by simp)]
            refine rest2 _ hO _ R3 hh3 ?_ (Nat.le_trans hn hn3)
            unfold N9b
            rw [if_pos hp]
            exact hr3
        · rw [if_neg (by omega)]
          refine rest2 _ hO _ R hh ?_ hn
          unfold N9b
          rw [if_neg hp]
          exact hr
      have m1 := met_s (sp := sp_Session_run_batch) (m := "run_batch") hh.toC.core.j rfl
      simp [startE, wpS, wpT, wpE, wpA, wpI, wpG, wpGs, wpOpt, outs, wipeE, ePar, r2__law_named_hold, cmp_gt_int, cmp_ge_int, cmp_le_int, cmp_lt_int]
      by_cases hp : 0 < n
      · rw [if_pos (by omega)]
        simp [startE, wpS, wpT, wpE, wpA, wpI, wpG, wpGs, wpOpt, outs, wipeE, ePar, two_le, one_le, three_le, m1]
        refine runs_ap (cs := [.prepare "sa" "?"]) hh hr (N9_ok n) (fun c m => ?_) (by show 1 ≤ 1000; decide) fun μ3 R3 hh3 hr3 hok3 hn3 => ?_
        · rw [List.mem_singleton.mp m]
          show (Str.ofString "?").length ≤ 1000
          decide +kernel
        · unfold outD
          rw [ixt_1, N9_a ⟨n, by omega⟩ hp]
          refine ne_reps (l := [.wrong "taken"]) ?_
          rw [if_neg (by simp)]
          refine rest1 _ rfl _ R3 hh3 ?_ (Nat.le_trans hn hn3)
          unfold N9a
          rw [if_pos hp]
          exact hr3
      · rw [if_neg (by omega)]
        refine rest1 _ rfl _ R hh ?_ hn
        unfold N9a
        rw [if_neg hp]
        exact hr
  · exact h.elim
end M
end

section
set_option Elab.async false
set_option linter.all false
set_option maxRecDepth 100000
set_option maxHeartbeats 4000000
set_option autoImplicit false
namespace M
open PySem PySem.Spec PyProof.Rows L2
open SX (S S_len S_cat)
theorem B9_ok : okSS B9 := batchA_ok nilSS_ok
theorem B9s_ok : okSS B9s := batchA_ok B9_ok
theorem B9d_ok : okSS B9d := batchA_ok B9s_ok
theorem B9f1_ok : okSS B9f1 := batchA_ok B9d_ok
theorem B9f2_ok : okSS B9f2 := batchA_ok B9f1_ok
theorem B9f3_ok : okSS B9f3 := batchA_ok B9f2_ok
theorem w__law_portals_hold : ∀ ds μ Q QX, μ.wf → objBs μ.next ds = true → sp__law_portals_hold ds μ Q QX → ds.length = 0 ∧ wpS c__law_portals_hold (startE N__law_portals_hold ds) μ (outs μ.next Q QX) := by
  intro ds μ Q QX hw ho h
  unfold sp__law_portals_hold at h
  split at h
  · refine ⟨rfl, ?_⟩
    have := sz1000
    simp [startE, wpS, wpT, wpE, wpA, wpI, wpG, wpGs, wpOpt, outs, wipeE, ePar, c__law_portals_hold, N__law_portals_hold, eNew, spD]
    refine new0 (.none hw) fun μ1 R1 hh1 hr1 hn1 => ⟨rfl, ?_⟩
    simp [startE, wpS, wpT, wpE, wpA, wpI, wpG, wpGs, wpOpt, outs, wipeE, ePar, r1__law_portals_hold, two_le]
    refine did_ap (vs := []) hh1 hr1 nilSS_ok (by decide +kernel) (Nat.zero_le _) B9_0 fun μ2 R2 hh2 hr2 hok2 hn2 => ?_
    refine ne_rep (r := .complete 0) ?_
    rw [if_neg (by simp)]
    refine did_ap (s := B9) (vs := []) hh2 hr2 B9_ok (by decide +kernel) (Nat.zero_le _) B9_1 fun μ3 R3 hh3 hr3 hok3 hn3 => ?_
    refine ne_rep (r := .complete 0) ?_
    rw [if_neg (by simp)]
    simp [startE, wpS, wpT, wpE, wpA, wpI, wpG, wpGs, wpOpt, outs, wipeE, ePar, r2__law_portals_hold, two_le, three_le, r3__law_portals_hold]
    refine loopC_rng (fun k => cmdD (.bind (pn9 k) "s" [.inl k])) trivial (fun k hk N hN => ?_) (by omega) ?_
    · refine ix_str (ab9g ⟨k, by omega⟩) (by decide) ?_
      refine add_str (by show (Str.ofString "p").length + 1 ≤ 1000; decide +kernel) ?_
      simp [startE, wpS, wpT, wpE, wpA, wpI, wpG, wpGs, wpOpt, outs, wipeE, ePar, one_le, le4]
      exact hN
    · rw [bin_addL]
      refine ⟨by simp; omega, ?_⟩
      simp [startE, wpS, wpT, wpE, wpA, wpI, wpG, wpGs, wpOpt, outs, wipeE, ePar, le4, one_le]
      rw [bin_addL]
      refine ⟨by simp; omega, ?_⟩
      have m1 := met_s (sp := sp_Session_run_batch) (m := "run_batch") hh3.toC.core.j rfl
      simp [startE, wpS, wpT, wpE, wpA, wpI, wpG, wpGs, wpOpt, outs, wipeE, ePar, r4__law_portals_hold, m1]
      have ec : ∀ l : List D, l = B9c.map cmdD → ∀ Q E, sp_Session_run_batch [.obj μ.next, cmdsD B9c] μ3 Q E → sp_Session_run_batch [.obj μ.next, .lst l] μ3 Q E := by
        rintro l rfl Q E h
        exact h
      refine ec _ (by unfold B9c; simp only [List.map_append, List.map_map]; rfl) _ _ ?_
      refine runs_ap (s := B9s) (cs := B9c) hh3 hr3 B9s_ok (fun c m => ?_) (by decide) fun μ4 R4 hh4 hr4 hok4 hn4 => ?_
      · unfold B9c at m
        rcases List.mem_append.mp m with m | m
        · rcases List.mem_append.mp m with m | m
          · simp only [List.mem_cons, List.not_mem_nil, or_false] at m
            rcases m with rfl | rfl | rfl
            · trivial
            · show (Str.ofString "scan t $1 $1").length ≤ 1000
              decide +kernel
            · show (Str.ofString "undo a").length ≤ 1000
              decide +kernel
          · obtain ⟨k, _, rfl⟩ := List.mem_map.mp m
            exact (by decide : 1 ≤ 1000)
        · rw [List.mem_singleton.mp m]
          exact Nat.zero_le _
      · unfold outD
        rw [ixt_1, ixl_last (x := repD .bound) (by rw [List.getLast?_map, B9_2]; rfl)]
        simp [startE, wpS, wpT, wpE, wpA, wpI, wpG, wpGs, wpOpt, outs, wipeE, ePar, one_le]
        refine ne_rep (r := .bound) ?_
        rw [if_neg (by simp)]
        have n4 : μ.next ≤ μ4.next := by omega
        have turn : ∀ {μ' : Sto} {R' : RS} {s s2 : SS} {c : Cmd} {w : Str} {o1 o2 o5 : Option D} (O : Outs) (LW : Env → Sto → Prop), O.nx = LW → HW μ' (allC μ.next R' ++ []) → R'.abs = s → okSS s → batchA s [c] = (s2, [.wrong w]) → s2.c.mode = "failed" → cmdOk c → (∀ μ'' R'', HW μ'' (allC μ.next R'' ++ []) → R''.abs = s2 → μ'.next ≤ μ''.next → LW [some (.obj μ.next), o1, o2, some (cmdD c), some (.str w), o5] μ'') →
            wpS b1__law_portals_hold [some (.obj μ.next), o1, o2, some (cmdD c), some (.str w), o5] μ' O := by
          intro μ' R' s s2 c w o1 o2 o5 O LW hO hh hr hok hb hm hc hL
          have m1 := met_s (sp := sp_Session_run_batch) (m := "run_batch") hh.toC.core.j rfl
          simp [startE, wpS, wpT, wpE, wpA, wpI, wpG, wpGs, wpOpt, outs, wipeE, ePar, b1__law_portals_hold, one_le, two_le, m1]
          refine runs_ap (cs := [c]) hh hr hok (fun x m => by rw [List.mem_singleton.mp m]; exact hc) (by show 1 ≤ 1000; decide) fun μ'' R'' hh'' hr'' hok'' hn'' => ?_
          have eo : outD (batchA s [c]) = D.tup [.str "failed", .lst [.tup [.str "wrong", .str w]]] := by
            rw [hb]
            unfold outD
            rw [hm]
            rfl
          rw [eo]
          refine ne_same rfl rfl ?_
          rw [if_neg (by simp), hO]
          exact hL _ _ hh'' (by rw [hr'', hb]) hn''
        simp [startE, wpS, wpT, wpE, wpA, wpI, wpG, wpGs, wpOpt, outs, wipeE, ePar, r5__law_portals_hold, two_le, three_le, le4, it_lst, loopF, sq_lst]
        refine turn _ _ rfl hh4 hr4 B9d_ok B9_3.1 B9_3.2 (by decide : 2 ≤ 1000) fun μ5 R5 hh5 hr5 hn5 => ?_
        refine turn _ _ rfl hh5 hr5 B9f1_ok B9_4.1 B9_4.2 (Nat.zero_le _) fun μ6 R6 hh6 hr6 hn6 => ?_
        refine turn _ _ rfl hh6 hr6 B9f2_ok B9_5.1 B9_5.2 (Nat.zero_le _) fun μ7 R7 hh7 hr7 hn7 => ?_
        have m7 := met_s (sp := sp_Session_run_batch) (m := "run_batch") hh7.toC.core.j rfl
        simp [startE, wpS, wpT, wpE, wpA, wpI, wpG, wpGs, wpOpt, outs, wipeE, ePar, r6__law_portals_hold, one_le, two_le, three_le, le4, m7]
        refine runs_ap (cs := B9g) hh7 hr7 B9f3_ok (fun c m => ?_) (by decide) fun μ8 R8 hh8 hr8 hok8 hn8 => ?_
        · simp only [B9g, List.mem_cons, List.not_mem_nil, or_false] at m
          rcases m with rfl | rfl | rfl | rfl
          · exact Int.le_refl _
          · trivial
          · exact (by decide : 1 ≤ 1000)
          · exact Nat.zero_le _
        · have eo : outD (batchA B9f3 B9g) = D.tup [.str "failed", .lst [.tup [.str "complete", .int 0], .tup [.str "closed"], .tup [.str "bound"], .tup [.str "wrong", .str "crowded"]]] := by
            unfold outD
            rw [B9_6.1, B9_6.2]
            rfl
          rw [eo]
          simp [startE, wpS, wpT, wpE, wpA, wpI, wpG, wpGs, wpOpt, outs, wipeE, ePar, r7__law_portals_hold, one_le, two_le, three_le, le4]
          refine eq_same rfl rfl ?_
          have n8 : μ.next ≤ μ8.next := by omega
          exact fin_all hh8.wf n8 rfl (h _ hh8.wf n8)
  · exact h.elim
theorem V9_ok : ∀ n, okSS (V9 n)
  | 0 => B9_ok
  | n + 1 => batchA_ok (V9_ok n)
theorem sv9_len : ∀ k : Fin 12, (sv9 k.val).length ≤ 1000 := by decide +kernel
theorem sv9_add : ∀ k : Fin 12, (Str.ofString "save ").length + (⟨#[97 + k.val % 3]⟩ : Str).length ≤ 1000 := by decide +kernel
theorem w__law_saves_hold : ∀ ds μ Q QX, μ.wf → objBs μ.next ds = true → sp__law_saves_hold ds μ Q QX → ds.length = 1 ∧ wpS c__law_saves_hold (startE N__law_saves_hold ds) μ (outs μ.next Q QX) := by
  intro ds μ Q QX hw ho h
  unfold sp__law_saves_hold at h
  split at h
  · rename_i n0
    obtain ⟨h0, h7, h1⟩ := h
    refine ⟨rfl, ?_⟩
    have := sz1000
    obtain ⟨n, rfl⟩ : ∃ m : Nat, n0 = m := ⟨n0.toNat, by omega⟩
    simp [startE, wpS, wpT, wpE, wpA, wpI, wpG, wpGs, wpOpt, outs, wipeE, ePar, c__law_saves_hold, N__law_saves_hold, eNew, spD]
    refine new0 (.none hw) fun μ1 R1 hh1 hr1 hn1 => ⟨rfl, ?_⟩
    simp [startE, wpS, wpT, wpE, wpA, wpI, wpG, wpGs, wpOpt, outs, wipeE, ePar, r1__law_saves_hold, two_le]
    refine did_ap (vs := []) hh1 hr1 nilSS_ok (by decide +kernel) (Nat.zero_le _) B9_0 fun μ2 R2 hh2 hr2 hok2 hn2 => ?_
    refine ne_rep (r := .complete 0) ?_
    rw [if_neg (by simp)]
    simp [startE, wpS, wpT, wpE, wpA, wpI, wpG, wpGs, wpOpt, outs, wipeE, ePar, r2__law_saves_hold]
    refine ⟨by omega, ?_⟩
    refine for_gen (fun i δ μ' => ∃ R o2 o3, HW μ' (allC μ.next R ++ []) ∧ R.abs = V9 i ∧ μ.next ≤ μ'.next ∧ δ = [some (.int n), some (.obj μ.next), o2, o3]) ⟨R2, none, none, hh2, hr2, by omega, rfl⟩ ?_ ?_
    · rintro i x LW hx hLW δ μ' ⟨R, o2, o3, hh, hr, hn, rfl⟩
      obtain ⟨hi, rfl⟩ := intsD_at hx
      refine ⟨trivial, ?_⟩
      have hi6 : i < 12 := by omega
      have rest : ∀ (O : Outs), O.nx = LW → ∀ r : Rp, (batchA (V9 i) (cmds7 (sv9 i) [])).2[4]? = some r → wpS q2b1__law_saves_hold [some (.int n), some (.obj μ.next), some (.int i), some (repD r)] μ' O := by
        intro O hO r hb
        simp [startE, wpS, wpT, wpE, wpA, wpI, wpG, wpGs, wpOpt, outs, wipeE, ePar, q2b1__law_saves_hold, binD]
        refine ix_str (ab9c ⟨i, by omega⟩) (by decide) ?_
        refine ⟨Nat.le_trans (sv9_add ⟨i, hi6⟩) this, ?_⟩
        refine did_ap (z := sv9 i) (vs := []) hh hr (V9_ok i) (sv9_len ⟨i, hi6⟩) (Nat.zero_le _) hb fun μ3 R3 hh3 hr3 hok3 hn3 => ?_
        refine ne_rep ?_
        rw [if_neg (by simp), hO]
        exact hLW _ _ ⟨R3, _, _, hh3, hr3, Nat.le_trans hn hn3, rfl⟩
      have hb := V9_step ⟨i, hi6⟩
      simp [startE, wpS, wpT, wpE, wpA, wpI, wpG, wpGs, wpOpt, outs, wipeE, ePar, b1__law_saves_hold, two_le, q1b1__law_saves_hold, cmp_gt_int, cmp_ge_int, cmp_le_int, cmp_lt_int]
      by_cases h4 : 10 ≤ i
      · rw [if_pos (by omega)]
        rw [if_pos h4] at hb
        simp [startE, wpS, wpT, wpE, wpA, wpI, wpG, wpGs, wpOpt, outs, wipeE, ePar, two_le, cmp_gt_int, cmp_ge_int, cmp_le_int, cmp_lt_int, spInt, ixD, sq_lst]
        have e : atI [D.str "crowded", D.str "failed"] (if (10 : Int) < i then 1 else 0) = some (.str (if 10 < i then "failed" else "crowded")) := by
          by_cases h8 : 10 < i
          · rw [if_pos (by omega), if_pos h8]
            rfl
          · rw [if_neg (by omega), if_neg h8]
            rfl
        rw [e]
        exact rest _ rfl _ hb
      · rw [if_neg (by omega)]
        rw [if_neg h4] at hb
        exact rest _ rfl _ hb
    · rintro δ μ' ⟨R, o2, o3, hh, hr, hn, rfl⟩
      rw [intsD_len] at hr

      refine ⟨trivial, ?_⟩
      simp [startE, wpS, wpT, wpE, wpA, wpI, wpG, wpGs, wpOpt, outs, wipeE, ePar, r3__law_saves_hold, cmp_gt_int, cmp_ge_int, cmp_le_int, cmp_lt_int, two_le]
      by_cases hp : n ≤ 10
      · rw [if_pos (by omega)]
        exact fin_all hh.wf hn rfl (h1 _ hh.wf hn)
      · rw [if_neg (by omega)]
        refine did_ap (vs := []) hh hr (V9_ok n) (by decide +kernel) (Nat.zero_le _) (V9_end ⟨n, by omega⟩ (by show 10 < n; omega)) fun μ3 R3 hh3 hr3 hok3 hn3 => ?_
        have n3 : μ.next ≤ μ3.next := by omega
        refine eq_rep9 (r := .complete 0) ?_
        exact fin_all hh3.wf n3 rfl (h1 _ hh3.wf n3)
  · exact h.elim
theorem st9_ok : okSS (newS st9) where
  c := ⟨⟨by decide, fun t m => by rw [List.mem_singleton.mp m]; exact ⟨by decide, st9_rise⟩⟩, ⟨by decide, fun t m => by rw [List.mem_singleton.mp m]; exact ⟨by decide, st9_rise⟩⟩, .inl rfl, Nat.zero_le _, fun t m => by cases m⟩
  sl := Nat.zero_le _
  st := fun t m => by cases m
  pl := Nat.zero_le _
  pn := List.nodup_nil
  po := fun t m => by cases m
theorem all2_map {α β γ : Type} {R : β → γ → Prop} (f : α → β) (g : α → γ) : ∀ {l : List α}, (∀ x ∈ l, R (f x) (g x)) → All2 R (l.map f) (l.map g)
  | [], _ => trivial
  | x :: l, h => ⟨h x (by simp), all2_map f g fun y m => h y (by simp [m])⟩
theorem w_law9 : ∀ ds μ Q QX, μ.wf → objBs μ.next ds = true → sp_law9 ds μ Q QX → ds.length = 1 ∧ wpS c_law9 (startE N_law9 ds) μ (outs μ.next Q QX) := by
  intro ds μ Q QX hw ho h
  unfold sp_law9 at h
  split at h
  · rename_i xs
    obtain ⟨ns, rfl, h1⟩ := h
    refine ⟨rfl, ?_⟩
    have := sz1000
    simp [startE, wpS, wpT, wpE, wpA, wpI, wpG, wpGs, wpOpt, outs, wipeE, ePar, c_law9, N_law9, sp__law_cell, sq_scr]
    refine ⟨⟨ns, rfl⟩, fun i0 => ?_⟩
    simp [startE, wpS, wpT, wpE, wpA, wpI, wpG, wpGs, wpOpt, outs, wipeE, ePar, binD, sp__law_tables_hold]
    have c0 := fmod_lt (a := i0) (b := 7) (by omega)
    refine ⟨c0.1, c0.2, fun μ1 hw1 hn1 => ?_⟩
    simp [startE, wpS, wpT, wpE, wpA, wpI, wpG, wpGs, wpOpt, outs, wipeE, ePar, truD, sp__law_cell, sq_scr]
    refine ⟨⟨ns, rfl⟩, fun i1 => ?_⟩
    simp [startE, wpS, wpT, wpE, wpA, wpI, wpG, wpGs, wpOpt, outs, wipeE, ePar, binD, sp__law_named_hold]
    have c1 := fmod_lt (a := i1) (b := 11) (by omega)
    refine ⟨c1.1, c1.2, fun μ2 hw2 hn2 => ?_⟩
    simp [startE, wpS, wpT, wpE, wpA, wpI, wpG, wpGs, wpOpt, outs, wipeE, ePar, truD, r1_law9, eCal0, sp__law_portals_hold]
    refine fun μ3 hw3 hn3 => ?_
    simp [startE, wpS, wpT, wpE, wpA, wpI, wpG, wpGs, wpOpt, outs, wipeE, ePar, truD, sp__law_cell, sq_scr]
    refine ⟨⟨ns, rfl⟩, fun i2 => ?_⟩
    simp [startE, wpS, wpT, wpE, wpA, wpI, wpG, wpGs, wpOpt, outs, wipeE, ePar, binD, sp__law_saves_hold]
    have c2 := fmod_lt (a := i2) (b := 13) (by omega)
    refine ⟨c2.1, c2.2, fun μ4 hw4 hn4 => ?_⟩
    simp [startE, wpS, wpT, wpE, wpA, wpI, wpG, wpGs, wpOpt, outs, wipeE, ePar, truD, r2_law9]
    refine loopC_rng (fun k => rowD (.inl k, .inl k)) trivial (fun k hk N hN => ?_) (by omega) ?_
    · simp [startE, wpS, wpT, wpE, wpA, wpI, wpG, wpGs, wpOpt, outs, wipeE, ePar, two_le]
      exact hN
    · simp [startE, wpS, wpT, wpE, wpA, wpI, wpG, wpGs, wpOpt, outs, wipeE, ePar, eNew, two_le, one_le]
      refine ⟨[], _, st9, HW.new (A := []) (.none hw4) rfl, .inr rfl, ⟨⟨_, _, .inl rfl, .inr rfl, ?_⟩, trivial⟩, st9_ok.c.1, by decide, fun μ5 R5 hh5 hr5 hn5 => ⟨rfl, ?_⟩⟩
      · exact all2_map (fun k : Nat => rowD (.inl k, .inl k)) (fun k : Nat => ((.inl k, .inl k) : Row)) fun k _ => .inl rfl
      · simp [startE, wpS, wpT, wpE, wpA, wpI, wpG, wpGs, wpOpt, outs, wipeE, ePar, r3_law9, two_le]
        refine did_ap (s := newS st9) (vs := []) hh5 hr5 st9_ok (by decide +kernel) (Nat.zero_le _) R9_0 fun μ6 R6 hh6 hr6 hok6 hn6 => ?_
        refine ne_rep (r := .wrong "full") ?_
        rw [if_neg (by simp)]
        refine did_ap (s := R9a) (vs := []) hh6 hr6 hok6 (by decide +kernel) (Nat.zero_le _) R9_1 fun μ7 R7 hh7 hr7 hok7 hn7 => ?_
        refine ne_rep (r := .wrong "full") ?_
        rw [if_neg (by simp)]
        simp [startE, wpS, wpT, wpE, wpA, wpI, wpG, wpGs, wpOpt, outs, wipeE, ePar, r4_law9, sp__law_cell, sq_scr]
        refine ⟨⟨ns, rfl⟩, fun i3 => ?_⟩
        simp [startE, wpS, wpT, wpE, wpA, wpI, wpG, wpGs, wpOpt, outs, wipeE, ePar, binD]
        have c3 := fmod_lt (a := i3) (b := 20) (by omega)
        generalize i3.fmod 20 = k0 at c3 ⊢
        obtain ⟨k, rfl⟩ : ∃ k : Nat, k0 = k := ⟨k0.toNat, by omega⟩
        have hk : k < 20 := by omega
        simp [startE, wpS, wpT, wpE, wpA, wpI, wpG, wpGs, wpOpt, outs, wipeE, ePar, r5_law9, one_le, two_le]
        refine did_ap (s := R9b) (vs := [.inl k]) hh7 hr7 hok7 (by decide +kernel) (by show 1 ≤ 1000; decide) (R9_2 ⟨k, hk⟩) fun μ8 R8 hh8 hr8 hok8 hn8 => ?_
        refine ne_rep (r := .complete 1) ?_
        rw [if_neg (by simp)]
        have m1 := met_s (sp := sp_Session_tables) (m := "tables") hh8.toC.core.j rfl
        have ok8 : okSS R8.abs := by rw [hr8]; exact hok8
        simp [startE, wpS, wpT, wpE, wpA, wpI, wpG, wpGs, wpOpt, outs, wipeE, ePar, r6_law9, m1]
        refine ⟨R8, portsC R8 ++ [], hh8.toC, ok8.c, ?_⟩
        have e8 : R8.store = [(Str.ofString "t", rn9 k)] := by
          show R8.abs.c.store = _
          rw [hr8]
          exact R9_3 ⟨k, hk⟩
        rw [e8]
        refine loopC_rng (fun j : Nat => rowD (.inl j, if j = k then .inr "new" else .inl j)) trivial (fun j hj N hN => ?_) (by omega) ?_
        · simp [startE, wpS, wpT, wpE, wpA, wpI, wpG, wpGs, wpOpt, outs, wipeE, ePar, two_le, cmp_eq_int, spInt, ixD, sq_lst]
          have e : atI [D.int j, D.str "new"] (if (j : Int) = k then 1 else 0) = some (keyD (if j = k then .inr "new" else .inl j)) := by
            by_cases hjk : j = k
            · rw [if_pos (by omega), if_pos hjk]
              rfl
            · rw [if_neg (by omega), if_neg hjk]
              rfl
          rw [e]
          exact hN
        · simp [startE, wpS, wpT, wpE, wpA, wpI, wpG, wpGs, wpOpt, outs, wipeE, ePar, two_le, one_le]
          have et : tabsD [(Str.ofString "t", rn9 k)] = D.lst [.tup [.str "t", .lst ((List.range 20).map fun j : Nat => rowD (.inl j, if j = k then .inr "new" else .inl j))]] := by
            unfold tabsD rn9
            simp only [List.map_cons, List.map_nil, List.map_map]
            rfl
          rw [et]
          refine eq_same rfl ?_ ?_
          · show ((true && (((List.range 20).map fun j : Nat => rowD (.inl j, if j = k then .inr "new" else .inl j)).all (eqN 9) && true)) && true) = true
            have : (((List.range 20).map fun j : Nat => rowD (.inl j, if j = k then .inr "new" else .inl j)).all (eqN 9)) = true := by
              rw [List.all_map, List.all_eq_true]
              exact fun j _ => eqN_tupK 8 _
            rw [this]
            rfl
          · have hn5' : μ4.next + 1 ≤ μ5.next := hn5
            exact fin_all hh8.wf (by omega) rfl (h1 _)
  · exact h.elim
theorem law_spec9 (ns : List Int) (hl : ns.length ≤ 63) (hb : ∀ z ∈ ns, Builtin.Int.intBits z ≤ 1048576) (QM : Post) (hQ : ∀ μ, QM (.bl true) μ) : sp_law9 [.scr (ns.map .int)] ⟨0, fun _ => none⟩ QM (fun _ _ => False) := ⟨ns, rfl, hQ⟩
end M
end

section
set_option Elab.async false
set_option linter.all false
set_option maxRecDepth 100000
set_option maxHeartbeats 4000000
set_option autoImplicit false
/-! M: the head's facts, with the tables of the code objects and the dicts of the top. -/
namespace M
open PySem PySem.Spec PyProof.Rows L2
theorem lookup_keep {K : PySem.W.Frag} {f : Addr → Bool} {a : Addr} : (K.filter fun e => f e.1).lookup a = if f a = true then K.lookup a else none := by
  induction K with
  | nil => split <;> rfl
  | cons e K ih =>
    obtain ⟨b, o⟩ := e
    rw [List.filter_cons]
    by_cases hb : f b = true
    · rw [if_pos hb, List.lookup_cons, List.lookup_cons, ih]
      by_cases hab : (a == b) = true
      · rw [hab]
        have : a = b := eq_of_beq hab
        subst this
        simp [hb]
      · rw [Bool.not_eq_true] at hab
        rw [hab]
    · rw [if_neg hb, ih, List.lookup_cons]
      by_cases hab : (a == b) = true
      · have : a = b := eq_of_beq hab
        subst this
        rw [if_neg hb, if_neg hb]
      · rw [Bool.not_eq_true] at hab
        rw [hab]
/-- a def's code object and its table -/
def codeTab (K : PySem.W.Frag) (x : Str) : Option (Addr × Addr) := match K.lookup (He.ga K x) with
  | some ⟨_, _, .func fd, _⟩ => (match fd.code with
    | .ref c => (match K.lookup c with
      | some ⟨_, _, .fields vs, _⟩ => (match vs.getD 11 .none with
        | .ref P => some (c, P)
        | _ => none)
      | _ => none)
    | _ => none)
  | _ => none
def tabsOf (K : PySem.W.Frag) (xs : List Str) : List (Addr × Addr) := xs.filterMap (codeTab K)
def noTabs (K : PySem.W.Frag) (ts : List (Addr × Addr)) : PySem.W.Frag := K.filter fun e => !(ts.any fun t => t.2 == e.1)
theorem noTabs_in {K : PySem.W.Frag} {ts : List (Addr × Addr)} {h : Heap} (X : K.In h) : (noTabs K ts).In h := fun a o e => by
  unfold noTabs at e
  rw [lookup_keep (f := fun b => !(ts.any fun t => t.2 == b))] at e
  split at e
  · exact X a o e
  · cases e
theorem noTabs_none {K : PySem.W.Frag} {ts : List (Addr × Addr)} {p : Addr × Addr} (h : p ∈ ts) : (noTabs K ts).lookup p.2 = none := by
  unfold noTabs
  rw [lookup_keep (f := fun b => !(ts.any fun t => t.2 == b)), if_neg]
  rw [Bool.not_eq_true, Bool.not_eq_false', List.any_eq_true]
  exact ⟨p, h, beq_self_eq_true _⟩
def emptyTab : Option Obj → Bool
  | some ⟨.none, none, .fields vs, sl⟩ => vs.isEmpty && sl.isEmpty
  | _ => false
theorem emptyTab_ok {o : Option Obj} (h : emptyTab o = true) : o = some { cls := .none, data := .fields #[] } := by
  unfold emptyTab at h
  split at h
  · rename_i vs sl
    rw [Bool.and_eq_true] at h
    rw [Array.isEmpty_iff.mp h.1, Array.isEmpty_iff.mp h.2]
  · cases h
def linkB (K : PySem.W.Frag) (x : Str) (c : Addr) : Bool := match K.lookup (He.ga K x) with
  | some ⟨_, _, .func fd, _⟩ => (match fd.code with
    | .ref d => d == c
    | _ => false)
  | _ => false
theorem linkB_ok {K : PySem.W.Frag} {x : Str} {c : Addr} (h : linkB K x c = true) {oc : Value} {od : Option Addr} {fd : FuncData} {sl : Array (Option Value)} (l : K.lookup (He.ga K x) = some ⟨oc, od, .func fd, sl⟩) : fd.code = .ref c := by
  unfold linkB at h
  rw [l] at h
  dsimp only at h
  split at h
  · rename_i d e
    rw [e, eq_of_beq h]
  · cases h
def codesB (g : Addr → Option Obj) (K0 K : PySem.W.Frag) (xs : List Str) : Bool := xs.all fun x => match codeTab K0 x with
  | some p => PySem.W.codeHdIn K0 p.1 p.2 && (emptyTab (g p.2) && linkB K x p.1)
  | none => false
/-- a dict of the top: keys, tuples of whole numbers -/
def intsB : List Int → List Value → Bool
  | [], [] => true
  | i :: is, .int j _ :: vs => decide (i = j) && intsB is vs
  | _, _ => false
theorem intsB_ok : ∀ {is : List Int} {vs : List Value}, intsB is vs = true → Vals (is.map V.int) vs
  | [], [], _ => .nil
  | [], v :: vs, h => by cases v <;> cases (show false = true from h)
  | i :: is, [], h => by cases (show false = true from h)
  | i :: is, v :: vs, h => by
    cases v with
    | int j t =>
      have h : (decide (i = j) && intsB is vs) = true := h
      rw [Bool.and_eq_true, decide_eq_true_eq] at h
      rw [h.1]
      exact .cons ⟨t, rfl⟩ (intsB_ok h.2)
    | _ => cases (show false = true from h)
def tupIs (K : PySem.W.Frag) (v : Value) (is : List Int) : Bool := match v with
  | .ref t => (match K.lookup t with
    | some ⟨.type c, _, .seq its _, _⟩ => decide (c = "tuple") && (Nat.ble its.size 1000 && intsB is its.toList)
    | _ => false)
  | _ => false
theorem tupIs_ok {K : PySem.W.Frag} {v : Value} {is : List Int} (h : tupIs K v is = true) : ∃ t, v = .ref t ∧ ∀ w : Vw, Rep K w (.tup (is.map .int)) (.ref t) := by
  unfold tupIs at h
  split at h
  · rename_i t
    split at h
    · rename_i c od its n sl l
      rw [Bool.and_eq_true, Bool.and_eq_true, decide_eq_true_eq] at h
      obtain ⟨rfl, h1, h2⟩ := h
      refine ⟨t, rfl, fun w => ⟨t, is.map V.int, rfl, .inr ⟨_, its, n, l, rfl, rfl, ?_, intsB_ok h2⟩, ?_⟩⟩
      · have := Nat.le_of_ble_eq_true h1
        rw [sizeLine_eq]
        omega
      · clear h2
        induction is with
        | nil => rfl
        | cons i is ih => exact ⟨.int i, is.map V.int, rfl, rfl, ih⟩
    · cases h
  · cases h
def entsB (K : PySem.W.Frag) : List DictEntry → List (Str × List Int) → Bool
  | [], [] => true
  | e :: es, q :: qs => (match e.key with
    | .str k _ => decide (k = q.1)
    | _ => false) && (tupIs K e.val q.2 && entsB K es qs)
  | _, _ => false
def dictB (K : PySem.W.Frag) (g : Str) (qs : List (Str × List Int)) : Bool := match K.lookup (He.ga K g) with
  | some ⟨_, _, .dict es _, _⟩ => entsB K es.toList qs
  | _ => false
theorem ents_find {K : PySem.W.Frag} {z : Str} : ∀ {es : List DictEntry} {qs : List (Str × List Int)}, entsB K es qs = true → es.any (·.refKey) = false ∧ match qs.lookup z with
    | some is => ∃ e, es.find? (·.key.isStr z) = some e ∧ ∃ t, e.val = .ref t ∧ ∀ w : Vw, Rep K w (.tup (is.map .int)) (.ref t)
    | none => es.find? (·.key.isStr z) = none
  | [], [], _ => ⟨rfl, rfl⟩
  | [], _ :: _, h => by cases (show false = true from h)
  | _ :: _, [], h => by cases (show false = true from h)
  | e :: es, q :: qs, h => by
    have h : ((match e.key with
      | .str k _ => decide (k = q.1)
      | _ => false) && (tupIs K e.val q.2 && entsB K es qs)) = true := h
    rw [Bool.and_eq_true, Bool.and_eq_true] at h
    obtain ⟨h1, h2, h3⟩ := h
    obtain ⟨r1, r2⟩ := ents_find (z := z) h3
    obtain ⟨q1, q2⟩ := q
    split at h1
    · rename_i k t ek
      have hk := of_decide_eq_true h1
      dsimp only at hk
      subst hk
      refine ⟨?_, ?_⟩
      · rw [List.any_cons, r1, Bool.or_false]
        unfold DictEntry.refKey
        rw [ek]
      · rw [List.lookup_cons, List.find?_cons]
        have e1 : e.key.isStr z = (z == k) := by
          rw [ek]
          show (k == z) = (z == k)
          exact BEq.comm
        rw [e1]
        cases hz : z == k with
        | true => exact ⟨e, rfl, tupIs_ok h2⟩
        | false => exact r2
    · cases h1
/-- a tuple of the top: texts -/
def strsB : List Str → List Value → Bool
  | [], [] => true
  | i :: is, .str j _ :: vs => decide (i = j) && strsB is vs
  | _, _ => false
theorem strsB_ok : ∀ {is : List Str} {vs : List Value}, strsB is vs = true → Vals (is.map V.str) vs
  | [], [], _ => .nil
  | [], v :: vs, h => by cases v <;> cases (show false = true from h)
  | i :: is, [], h => by cases (show false = true from h)
  | i :: is, v :: vs, h => by
    cases v with
    | str j t =>
      have h : (decide (i = j) && strsB is vs) = true := h
      rw [Bool.and_eq_true, decide_eq_true_eq] at h
      rw [h.1]
      exact .cons ⟨t, rfl⟩ (strsB_ok h.2)
    | _ => cases (show false = true from h)
def tupSB (K : PySem.W.Frag) (g : Str) (ws : List Str) : Bool := match K.lookup (He.ga K g) with
  | some ⟨.type c, none, .seq its _, _⟩ => decide (c = "tuple") && (Nat.ble its.size 1000 && strsB ws its.toList)
  | _ => false
theorem tupSB_ok {B : Bs} {g : Str} {ws : List Str} (hg : B.mg g = some (.ref (He.ga B.K g))) (h : tupSB B.K g ws = true) : GtC B g ws := by
  unfold tupSB at h
  split at h
  · rename_i c its n sl l
    rw [Bool.and_eq_true, Bool.and_eq_true, decide_eq_true_eq] at h
    obtain ⟨rfl, h1, h2⟩ := h
    refine ⟨He.ga B.K g, _, its, n, hg, l, rfl, rfl, rfl, ?_, strsB_ok h2⟩
    have := Nat.le_of_ble_eq_true h1
    rw [sizeLine_eq]
    omega
  · cases h
abbrev AlM : Type := Bool × Bool × Bool × He.AlT
/-- no table of the one names is one of the others' -/
def sepB (K : PySem.W.Frag) (xs ys : List Str) : Bool := ys.all fun y => match codeTab K y with
  | some q => decide (q.2 ≠ 0) && xs.all fun x => match codeTab K x with
    | some p => decide (p.2 ≠ q.2)
    | none => false
  | none => false
def frN (g : Addr → Option Obj) (n : Nat) (zs : List Str) : PySem.W.Frag := noTabs (He.frG g (He.asD g n)) (tabsOf (He.frG g (He.asD g n)) zs)
def obsM (n : Nat) (fa : List He.Fa) (fn : List He.DefD) (ts : List (Str × List (Str × List Int))) (us : List (Str × List Str)) (xs ys : List Str) (es : List (Str × Option Str)) (g : Addr → Option Obj) : AlM :=
  (codesB g (He.frG g (He.asD g n)) (frN g n (xs ++ ys)) (xs ++ ys) && (sepB (He.frG g (He.asD g n)) xs ys && es.all fun f => tupIs (frN g n (xs ++ ys)) (.ref (He.dflAt f 0 (frN g n (xs ++ ys)))) []),
    ts.all fun t => dictB (frN g n (xs ++ ys)) t.1 t.2,
    us.all fun t => tupSB (frN g n (xs ++ ys)) t.1 t.2,
    He.obsT fa fn (ts.map fun t => (fun K => He.ga K t.1, t.2.map (·.1))) (frN g n (xs ++ ys)))
structure SaysM (fa : List He.Fa) (fn : List He.DefD) (ts : List (Str × List (Str × List Int))) (us : List (Str × List Str)) (xs ys : List Str) (es : List (Str × Option Str)) (w : World) (K : PySem.W.Frag) (cs ls : List (Addr × Addr)) (h : Heap) : Prop where
  kin : K.In h
  tabs : ∀ p ∈ cs ++ ls, K.lookup p.2 = none ∧ PySem.W.CodeHd h p.1 p.2 ∧ h.get? p.2 = some { cls := .none, data := .fields #[] }
  link : ∀ x ∈ xs, ∃ p ∈ cs, linkB K x p.1 = true
  linkL : ∀ y ∈ ys, ∃ p ∈ ls, linkB K y p.1 = true ∧ (∀ q ∈ cs, q.2 ≠ p.2) ∧ p.2 ≠ 0
  dic : ∀ t ∈ ts, dictB K t.1 t.2 = true
  tup : ∀ t ∈ us, tupSB K t.1 t.2 = true
  emp : ∀ f ∈ es, tupIs K (.ref (He.dflAt f 0 K)) [] = true
  says : He.SaysT fa fn (ts.map fun t => (fun K => He.ga K t.1, t.2.map (·.1))) w K
def hookM (n : Nat) (fa : List He.Fa) (fn : List He.DefD) (ts : List (Str × List (Str × List Int))) (us : List (Str × List Str)) (xs ys : List Str) (es : List (Str × Option Str)) : PySem.W.Hook where
  α := AlM
  obs := fun s => obsM n fa fn ts us xs ys es s.heap.get?
  val := fun w => (true, true, true, He.valT fn (ts.map fun t => (fun K => He.ga K t.1, t.2.map (·.1))) w)
  says := fun w h => ∃ K cs ls, SaysM fa fn ts us xs ys es w K cs ls h
  of := fun w s e => by
    obtain ⟨e1, e2⟩ := Prod.mk.inj e
    obtain ⟨e2, e4⟩ := Prod.mk.inj e2
    obtain ⟨e4, e3⟩ := Prod.mk.inj e4
    have X : (He.frG s.heap.get? (He.asD s.heap.get? n)).In s.heap := He.frG_in
    rw [Bool.and_eq_true, Bool.and_eq_true] at e1
    obtain ⟨e1, e5, e6⟩ := e1
    have hap : tabsOf (He.frG s.heap.get? (He.asD s.heap.get? n)) (xs ++ ys) = tabsOf (He.frG s.heap.get? (He.asD s.heap.get? n)) xs ++ tabsOf (He.frG s.heap.get? (He.asD s.heap.get? n)) ys := List.filterMap_append
    have one : ∀ x ∈ xs ++ ys, ∃ p, codeTab (He.frG s.heap.get? (He.asD s.heap.get? n)) x = some p ∧ PySem.W.codeHdIn (He.frG s.heap.get? (He.asD s.heap.get? n)) p.1 p.2 = true ∧ emptyTab (s.heap.get? p.2) = true ∧ linkB (frN s.heap.get? n (xs ++ ys)) x p.1 = true := fun x hx => by
      have c := List.all_eq_true.mp e1 x hx
      cases ex : codeTab (He.frG s.heap.get? (He.asD s.heap.get? n)) x with
      | none =>
        rw [ex] at c
        cases c
      | some p =>
        rw [ex] at c
        dsimp only at c
        rw [Bool.and_eq_true, Bool.and_eq_true] at c
        exact ⟨p, rfl, c.1, c.2.1, c.2.2⟩
    have KX : (frN s.heap.get? n (xs ++ ys)).In s.heap := noTabs_in X
    refine ⟨frN s.heap.get? n (xs ++ ys), tabsOf (He.frG s.heap.get? (He.asD s.heap.get? n)) xs, tabsOf (He.frG s.heap.get? (He.asD s.heap.get? n)) ys, KX, fun p hp => ?_, fun x hx => ?_, fun y hy => ?_, fun t ht => List.all_eq_true.mp e2 t ht, fun t ht => List.all_eq_true.mp e4 t ht, fun f hf => List.all_eq_true.mp e6 f hf, e3⟩
    · rw [← hap] at hp
      obtain ⟨x, hx, ex⟩ := List.mem_filterMap.mp hp
      obtain ⟨p2, e7, c1, c2, c3⟩ := one x hx
      rw [ex] at e7
      cases e7
      exact ⟨noTabs_none hp, PySem.W.codeHd_of_K X c1, emptyTab_ok c2⟩
    · obtain ⟨p, e7, c1, c2, c3⟩ := one x (List.mem_append_left _ hx)
      exact ⟨p, List.mem_filterMap.mpr ⟨x, hx, e7⟩, c3⟩
    · obtain ⟨p, e7, c1, c2, c3⟩ := one y (List.mem_append_right _ hy)
      have c := List.all_eq_true.mp e5 y hy
      rw [e7] at c
      dsimp only at c
      rw [Bool.and_eq_true, decide_eq_true_eq] at c
      refine ⟨p, List.mem_filterMap.mpr ⟨y, hy, e7⟩, c3, fun q hq => ?_, c.1⟩
      obtain ⟨x, hx, ex⟩ := List.mem_filterMap.mp hq
      have c2 := List.all_eq_true.mp c.2 x hx
      rw [ex] at c2
      exact of_decide_eq_true c2
  keeps := fun w h h' ⟨K, cs, ls, S⟩ k => ⟨K, cs, ls, PySem.W.Frag.In.keeps S.kin k, fun p hp => let ⟨a, b, c⟩ := S.tabs p hp; ⟨a, b.keeps k, k _ _ c⟩, S.link, S.linkL, S.dic, S.tup, S.emp, S.says⟩
theorem obsM_eq {n : Nat} {fa : List He.Fa} {fn : List He.DefD} {ts : List (Str × List (Str × List Int))} {us : List (Str × List Str)} {xs ys : List Str} {es : List (Str × Option Str)} {g : Addr → Option Obj} {s : Shared} (h : ∀ a, g a = s.heap.get? a) : obsM n fa fn ts us xs ys es g = (hookM n fa fn ts us xs ys es).obs s := by
  have e : g = s.heap.get? := funext h
  rw [e] <;> rfl
section
variable {fa : List He.Fa} {fn : List He.DefD} {ts : List (Str × List (Str × List Int))} {us : List (Str × List Str)} {xs ys : List Str} {es : List (Str × Option Str)} {w : World} {K : PySem.W.Frag} {cs ls : List (Addr × Addr)} {h : Heap}
theorem SaysM.fact (S : SaysM fa fn ts us xs ys es w K cs ls h) (i : Nat) {f : He.Fa} (e : fa[i]? = some f := by rfl) : f.ok K = true := S.says.d.fact i e
theorem SaysM.gt {B : Bs} (S : SaysM fa fn ts us xs ys es B.w B.K cs ls h) (i : Nat) {g : Str} {ws : List Str} (e : us[i]? = some (g, ws)) (hg : B.mg g = some (.ref (He.ga B.K g))) : GtC B g ws := tupSB_ok hg (S.tup _ (List.mem_of_getElem? e))
theorem SaysM.gd {B : Bs} (S : SaysM fa fn ts us xs ys es B.w B.K cs ls h) (i : Nat) {g : Str} {qs : List (Str × List Int)} {tbl : List (Str × D)} (e : ts[i]? = some (g, qs)) (hg : B.mg g = some (.ref (He.ga B.K g))) (ht : tbl = qs.map fun q => (q.1, .tup (q.2.map .int))) : GdC B g tbl := by
  have e' : (ts.map fun t => ((fun K => He.ga K t.1, t.2.map (·.1)) : He.Tab))[i]? = some (fun K => He.ga K g, qs.map (·.1)) := by rw [List.getElem?_map, e]; rfl
  obtain ⟨es, n, l, kl, low⟩ := S.says.tab i e'
  have dd := S.dic _ (List.mem_of_getElem? e)
  unfold dictB at dd
  dsimp only at dd
  have l : B.K.lookup (He.ga B.K g) = some ⟨.type "dict", none, .dict es n, #[]⟩ := l
  rw [l] at dd
  dsimp only at dd
  refine ⟨He.ga B.K g, es, n, hg, l, kl, low, fun z => ?_⟩
  obtain ⟨r1, r2⟩ := ents_find (z := z) dd
  have hm : ∀ l : List (Str × List Int), (l.map fun q => (q.1, D.tup (q.2.map .int))).lookup z = (l.lookup z).map fun is => D.tup (is.map .int) := by
    intro l
    induction l with
    | nil => rfl
    | cons q l ih =>
      rw [List.map_cons, List.lookup_cons, List.lookup_cons]
      cases z == q.1 with
      | true => rfl
      | false => exact ih
  have hl : tbl.lookup z = (qs.lookup z).map fun is => D.tup (is.map .int) := by
    rw [ht]
    exact hm qs
  rw [hl]
  cases hq : qs.lookup z with
  | some is =>
    rw [hq] at r2
    obtain ⟨en, fe, t, ev, rr⟩ := r2
    refine ⟨en.val, .ref t, ?_, by rw [ev]; rfl, rr⟩
    unfold PySem.W.nsIn
    rw [l]
    dsimp only
    rw [fe]
  | none =>
    rw [hq] at r2
    show PySem.W.nsIn B.K (He.ga B.K g) z = some none
    unfold PySem.W.nsIn
    rw [l]
    dsimp only
    rw [r2]
    dsimp only
    rw [r1]
    rfl
end
end M
end

section
set_option Elab.async false
set_option linter.all false
set_option maxRecDepth 100000
set_option maxHeartbeats 4000000
set_option autoImplicit false
/-! M: the end. -/
namespace M
open PySem PySem.Spec PyProof.Rows L2
section
variable {B : Bs} {T : List Addr} {cls : Nat → Addr} {k : Nat}
theorem fun_of {K : PySem.W.Frag} {x qual : Str} {st : Stmt} {f : Addr} {fd : FuncData} (F : FunD K x qual (defArgs st) (defBody st) (defScope st) [] [] f fd) : Fun K x qual st f fd := by
  obtain ⟨oc, od, dV, kV, doc, pm, an, cdv, ct, osl, rfl, lk, hcd, hD, _⟩ := F.ex
  rcases hD with ⟨_, rfl⟩ | ⟨e, _⟩
  · exact ⟨⟨oc, od, kV, doc, pm, an, cdv, ct, osl, rfl, lk, hcd⟩, F.kp⟩
  · exact absurd rfl e
theorem cal_fn {x : Str} {f : Addr} {fd : FuncData} {ps : List Str} {sp : Spec} {j : Nat} (F : FnOk B.P B.w B.K B.mg B.base (L2.CX B.P B.w) j f fd ps (lift ⟨B.K, T, cls⟩ sp)) (hm : B.mg x = some (.ref f)) (kp : PySem.W.keepIn B.K (.ref f) = true) (b : Binds B.K fd ps []) (hd : (x == ("__debug__" : Str)) = false) :
    ∀ k, j ≤ k → CalC B T cls k x sp := fun k hk =>
  .inl ⟨f, fd, ps, sp, [], [], [], hm, kp, hd, F.mono hk, b, .nil, fun _ => rfl, fun ds μ Q E h => by rw [List.append_nil]; exact h⟩
theorem fc_fn {x : Str} {f : Addr} {fd : FuncData} {ps : List Str} {sp : Spec} {j : Nat} (F : FnOk B.P B.w B.K B.mg B.base (L2.CX B.P B.w) j f fd ps (lift ⟨B.K, T, cls⟩ sp)) (hm : B.mg x = some (.ref f)) (kp : PySem.W.keepIn B.K (.ref f) = true) (b : Binds B.K fd ps []) (hd : (x == ("__debug__" : Str)) = false) :
    ∀ k, j ≤ k → FnC B T cls k x sp := fun k hk =>
  ⟨f, fd, ps, sp, [], [], [], hm, kp, hd, F.mono hk, b, .nil, fun _ => rfl, fun ds μ Q E h => by rw [List.append_nil]; exact h⟩
theorem code_link {K : PySem.W.Frag} {x : Str} {st : Stmt} {qual : Str} {c : Addr} (h : linkB K x c = true) {oc : Value} {od : Option Addr} {kV doc pm cdv ct : Value} {an : Option Addr} {osl : Array (Option Value)}
    (lk : K.lookup (He.ga K x) = some ⟨oc, od, .func (PySem.W.fnOf x qual (defArgs st) (defBody st) (defScope st) .none kV doc pm an cdv ct), osl⟩) : cdv = .ref c := linkB_ok h lk
/-- a def with defaults: no generator expression, no lambda -/
theorem fn_okD {x qual : Str} {st : Stmt} {f : Addr} {fd : FuncData} {N ps : List Str} {sp : Spec} {c : IR} {dvs : List V} (F : FunD B.K x qual (defArgs st) (defBody st) (defScope st) dvs [] f fd) (S : FnScope N ps (defScope st)) (hc : chkB N c (defScope st) (defBody st) = true) (ok : okS B T cls k False c)
    (hld : lamK (defScope st) = false)
    (h : ∀ ds μ Q QX, μ.wf → objBs μ.next ds = true → sp ds μ Q QX → ds.length = ps.length ∧ wpS c (startE N ds) μ (outs μ.next Q QX)) (hl : ∀ ds μ Q QX, sp ds μ Q QX → ds.length = ps.length) : FnOk B.P B.w B.K B.mg B.base (L2.CX B.P B.w) (k + 1) f fd ps (lift ⟨B.K, T, cls⟩ sp) := by
  obtain ⟨oc, od, dV, kV, doc, pm, an, cdv, ct, osl, rfl, lk, hcode, _, _⟩ := F.ex
  refine fn_of lk hcode S (fun vs H Q E h => ?_) fun A outer s H vs Q E hr hsp => ?_
  · obtain ⟨S0, ds, QM, QX, rfl, R, r, hs, _, _⟩ := h
    rw [r.length]
    exact hl _ _ _ _ hs
  · obtain ⟨S0, ds, QM, QX, rfl, R, r, hs, hq, hx⟩ := hsp
    obtain ⟨_, hw⟩ := h ds S0.μ QM QX R.wf r.objB hs
    refine ⟨DS ⟨B.K, T, cls⟩ (fun cl d _ H => E cl d H) c, ?_, ?_⟩
    · exact sndB (B := B) (k := k) (cd := False) (X := cxOf (L2.CX B.P B.w) B.P B.w B.K B.mg B.base N qual (defScope st) f cdv A outer s S0.H E) c ⟨rfl, ⟨rfl, S.nd, hr, fun _ _ => rfl⟩, fun z => z.elim, takes_of rfl rfl rfl rfl, (fun h => by cases h), fun _ => S.kind, fun _ e => by
        have e : lamK (defScope st) = true := e
        rw [hld] at e
        cases e⟩ (passes_of rfl) ok hc
    · refine ⟨S0, startE N ds, outs S0.μ.next QM QX, rfl, R, env_start r, hw, ?_⟩
      have fin : ∀ S' d v, S0.le S' → Rl ⟨B.K, T, cls⟩ S' → Rep B.K S'.vw d v → finP S0.μ.next QM d S'.μ → Q v S'.H := by
        rintro S' d v l R' r' ⟨μ1, hn, hp, ho, q⟩
        obtain ⟨hx1, R1⟩ := R'.part hp
        exact hq { S' with μ := μ1 } d v ⟨⟨l.1.1.trans hx1, l.1.2.1, hn⟩, l.2⟩ R1 (Rep.down (w := S'.vw) (w' := Ss.vw { S' with μ := μ1 }) hx1 (fun _ _ => rfl) r' ho) q
      refine ⟨fun S' δ' σ' l R' _ q => fin S' .non .non l R' rfl q, fun S' d v l R' r' q => fin S' d v l R' r' q, fun _ _ _ _ _ _ q => q.elim, fun _ _ _ _ _ _ q => q.elim, ?_⟩
      rintro S' x δ' σ' l R' _ ⟨μ1, hn, hp, q⟩
      obtain ⟨hx1, R1⟩ := R'.part hp
      exact hx { S' with μ := μ1 } x ⟨⟨l.1.1.trans hx1, l.1.2.1, hn⟩, l.2⟩ R1 q
/-- a method -/
theorem me_fn {c : Nat} {m : Str} {f : Addr} {fd : FuncData} {ps : List Str} {sp : Spec} {j : Nat} (hc : Cls B.K (cls c)) (M : Meth B.K (cls c) m f) (F : FnOk B.P B.w B.K B.mg B.base (L2.CX B.P B.w) j f fd ps (lift ⟨B.K, T, cls⟩ sp)) (b : Binds B.K fd ps []) :
    ∀ k, j ≤ k → MeC B T cls k c m sp := fun k hk => ⟨hc, f, fd, ps, sp, [], [], [], M, F.mono hk, b, .nil, fun _ => rfl, fun ds μ Q E h => by rw [List.append_nil]; exact h⟩
theorem one_met {c0 : Nat} {m : Str} {sp0 : Spec} (h : MeC B T cls k c0 m sp0) : ∀ c sp, ([(c0, sp0)] : List (Nat × Spec)).lookup c = some sp → MeC B T cls k c m sp := fun c sp e => by
  rw [List.lookup_cons] at e
  cases hc : c == c0 with
  | true =>
    rw [hc] at e
    cases e
    rw [eq_of_beq hc]
    exact h
  | false =>
    rw [hc] at e
    cases e
/-- a class called, all arguments given -/
theorem nw_fn {x : Str} {c : Nat} {f : Addr} {fd : FuncData} {ps : List Str} {sp : Spec} {j : Nat} (hm : B.mg x = some (.ref (cls c))) (hd : (x == ("__debug__" : Str)) = false) (M : Mk B.K (cls c) f) (F : FnOk B.P B.w B.K B.mg B.base (L2.CX B.P B.w) j f fd ps (lift ⟨B.K, T, cls⟩ sp)) (b : Binds B.K fd ps []) :
    ∀ k, j + 1 ≤ k → NwC B T cls k x c sp := fun k hk => ⟨j, f, fd, ps, sp, [], [], [], hk, hm, hd, M, F, b, .nil, fun _ => rfl, fun ds μ Q E h => by rw [List.append_nil]; exact h⟩
/-- .. the last one left out: an empty tuple -/
theorem nw_fnD {x : Str} {c : Nat} {f : Addr} {fd : FuncData} {ps : List Str} {sp : Spec} {j : Nat} {a : Addr} (hm : B.mg x = some (.ref (cls c))) (hd : (x == ("__debug__" : Str)) = false) (M : Mk B.K (cls c) f) (F : FnOk B.P B.w B.K B.mg B.base (L2.CX B.P B.w) j f fd ps (lift ⟨B.K, T, cls⟩ sp)) (b : ∃ ds, Vals [V.ref a] ds ∧ Binds B.K fd ps ds) (ha : tupIs B.K (.ref a) [] = true) :
    ∀ k, j + 1 ≤ k → NwC B T cls k x c (spD sp [.tup []]) := fun k hk => by
  obtain ⟨ds, hv, hb⟩ := b
  obtain ⟨t, e, hr⟩ := tupIs_ok ha
  cases e
  exact ⟨j, f, fd, ps, sp, [.tup []], [.ref a], ds, hk, hm, hd, M, F, hb, hv, fun w => ⟨.ref a, [], rfl, hr w, rfl⟩, fun ds μ Q E h => h⟩
/-- .. all arguments given, though the last one has a default -/
theorem binds_full {K : PySem.W.Frag} {fd : FuncData} {ps : List Str} (b : ∃ ds, Vals ([] : List V) ds ∧ Binds K fd ps ds) : Binds K fd ps [] := by
  obtain ⟨ds, hv, hb⟩ := b
  cases hv
  exact hb
/-- the law's call begins -/
theorem law_start {H : Hp} {a : Addr} {ns : List Int} {K : PySem.W.Frag} {sp : Spec} (hT : ∀ p ∈ T, H p = some (.tbl #[])) (hL : cls 1000 ≠ 0 → cls 1000 ∉ T ∧ H (cls 1000) = some (.tbl #[])) (hS : SqL K H a (ns.map V.int)) (h : ∀ (QM : Post), (∀ μ, QM (.bl true) μ) → sp [.scr (ns.map .int)] ⟨0, fun _ => none⟩ QM (fun _ _ => False)) :
    lift ⟨K, T, cls⟩ sp [.ref a] H (fun v _ => v = .bl true) fun _ _ _ => False := by
  have eh : hid ⟨fun _ => 0, ⟨0, fun _ => none⟩, H, fun _ => none⟩ = H := by
    funext b
    unfold hid
    rw [if_neg]
    rintro (⟨k, c, h1, _⟩ | ⟨o, h1⟩)
    · cases h1
    · cases h1
  refine ⟨⟨fun _ => 0, ⟨0, fun _ => none⟩, H, fun _ => none⟩, [.scr (ns.map .int)], fun d _ => d = .bl true, fun _ _ => False, rfl, ⟨fun k j c d h1 => (by cases h1), fun k c h1 => (by cases h1), fun k c h1 => (by cases h1), fun b hb => ⟨#[], by rw [eh]; exact hT b hb, ?_⟩, fun b o h1 => (by cases h1), fun z => ⟨(hL z).1, LamX.TabS.nil (by rw [eh]; exact (hL z).2)⟩⟩, ?_, h _ fun _ => rfl, ?_, fun S' x _ _ q => q.elim⟩
  · exact trivial
  · refine ⟨.ref a, [], rfl, ⟨a, ns.map V.int, rfl, ?_, ?_⟩, rfl⟩
    · show SqL K (hid _) a _
      rw [eh]
      exact hS
    · clear hS h
      induction ns with
      | nil => rfl
      | cons n ns ih => exact ⟨.int n, ns.map V.int, rfl, rfl, ih⟩
  · intro S' d v _ _ r q
    have q : d = .bl true := q
    subst q
    exact r
theorem cx_false {P : Program} {w : World} {H : Hp} {s : Shared} {e : Value} {s' : Shared} (h : L2.CX P w [] H s (fun _ _ _ => False) e s') : False := by
  obtain ⟨_, _, _, _, _, _, _, _, _, _, _, _, hE⟩ := h
  exact hE
end
end M
end

section
set_option Elab.async false
set_option linter.all false
set_option maxRecDepth 100000
set_option maxHeartbeats 4000000
set_option autoImplicit false
/-! the defs of the row, the head, the end. -/
namespace M
open PySem PySem.Spec PyProof.Rows L2
def topS (i : Nat) : Stmt := PySem.Challenge.pw_batchends_k09_bounds_of_sessions.main.body.getD i (.Pass ⟨0, 0, 0, 0⟩)
abbrev s_store_of : Stmt := topS 28
theorem sc_store_of : FnScope N_store_of ["tables"] (defScope s_store_of) := ⟨rfl, rfl, rfl, by decide +kernel, rfl, by decide +kernel, by decide +kernel⟩
theorem k_store_of : chkB N_store_of c_store_of (defScope s_store_of) (defBody s_store_of) = true := by decide +kernel
def d_store_of : He.DefD := ⟨("store_of", none), "store_of", "store_of", defArgs s_store_of, defBody s_store_of, defScope s_store_of, [], []⟩
abbrev s_Session___init__ : Stmt := inClass (topS 43) 0
theorem sc_Session___init__ : FnScope N_Session___init__ ["self", "tables"] (defScope s_Session___init__) := ⟨rfl, rfl, rfl, by decide +kernel, rfl, by decide +kernel, by decide +kernel⟩
theorem k_Session___init__ : chkB N_Session___init__ c_Session___init__ (defScope s_Session___init__) (defBody s_Session___init__) = true := by decide +kernel
def d_Session___init__ : He.DefD := ⟨("Session", some "__init__"), "__init__", "Session.__init__", defArgs s_Session___init__, defBody s_Session___init__, defScope s_Session___init__, [.adr (He.dflAt ("Session", some "__init__") 0)], []⟩
abbrev s_Session__end : Stmt := inClass (topS 43) 13
theorem sc_Session__end : FnScope N_Session__end ["self", "word"] (defScope s_Session__end) := ⟨rfl, rfl, rfl, by decide +kernel, rfl, by decide +kernel, by decide +kernel⟩
theorem k_Session__end : chkB N_Session__end c_Session__end (defScope s_Session__end) (defBody s_Session__end) = true := by decide +kernel
def d_Session__end : He.DefD := ⟨("Session", some "_end"), "_end", "Session._end", defArgs s_Session__end, defBody s_Session__end, defScope s_Session__end, [], []⟩
abbrev s_Session__undo : Stmt := inClass (topS 43) 12
theorem sc_Session__undo : FnScope N_Session__undo ["self", "name"] (defScope s_Session__undo) := ⟨rfl, rfl, rfl, by decide +kernel, rfl, by decide +kernel, by decide +kernel⟩
theorem k_Session__undo : chkB N_Session__undo c_Session__undo (defScope s_Session__undo) (defBody s_Session__undo) = true := by decide +kernel
def d_Session__undo : He.DefD := ⟨("Session", some "_undo"), "_undo", "Session._undo", defArgs s_Session__undo, defBody s_Session__undo, defScope s_Session__undo, [], []⟩
abbrev s_Session__save : Stmt := inClass (topS 43) 11
theorem sc_Session__save : FnScope N_Session__save ["self", "name"] (defScope s_Session__save) := ⟨rfl, rfl, rfl, by decide +kernel, rfl, by decide +kernel, by decide +kernel⟩
theorem k_Session__save : chkB N_Session__save c_Session__save (defScope s_Session__save) (defBody s_Session__save) = true := by decide +kernel
def d_Session__save : He.DefD := ⟨("Session", some "_save"), "_save", "Session._save", defArgs s_Session__save, defBody s_Session__save, defScope s_Session__save, [], []⟩
abbrev s_Session__begin : Stmt := inClass (topS 43) 10
theorem sc_Session__begin : FnScope N_Session__begin ["self"] (defScope s_Session__begin) := ⟨rfl, rfl, rfl, by decide +kernel, rfl, by decide +kernel, by decide +kernel⟩
theorem k_Session__begin : chkB N_Session__begin c_Session__begin (defScope s_Session__begin) (defBody s_Session__begin) = true := by decide +kernel
def d_Session__begin : He.DefD := ⟨("Session", some "_begin"), "_begin", "Session._begin", defArgs s_Session__begin, defBody s_Session__begin, defScope s_Session__begin, [], []⟩
abbrev s_rank : Stmt := topS 13
theorem sc_rank : FnScope N_rank ["value"] (defScope s_rank) := ⟨rfl, rfl, rfl, by decide +kernel, rfl, by decide +kernel, by decide +kernel⟩
theorem k_rank : chkB N_rank c_rank (defScope s_rank) (defBody s_rank) = true := by decide +kernel
def d_rank : He.DefD := ⟨("rank", none), "rank", "rank", defArgs s_rank, defBody s_rank, defScope s_rank, [], []⟩
abbrev s_found : Stmt := topS 34
theorem sc_found : FnScope N_found ["store", "word", "name", "values"] (defScope s_found) := ⟨rfl, rfl, rfl, by decide +kernel, rfl, by decide +kernel, by decide +kernel⟩
theorem k_found : chkB N_found c_found (defScope s_found) (defBody s_found) = true := by decide +kernel
def d_found : He.DefD := ⟨("found", none), "found", "found", defArgs s_found, defBody s_found, defScope s_found, [], []⟩
abbrev s_without : Stmt := topS 30
theorem sc_without : FnScope N_without ["rows", "key"] (defScope s_without) := ⟨rfl, rfl, rfl, by decide +kernel, rfl, by decide +kernel, by decide +kernel⟩
theorem k_without : chkB N_without c_without (defScope s_without) (defBody s_without) = true := by decide +kernel
def d_without : He.DefD := ⟨("without", none), "without", "without", defArgs s_without, defBody s_without, defScope s_without, [], []⟩
abbrev s_delete : Stmt := topS 33
theorem sc_delete : FnScope N_delete ["store", "name", "key"] (defScope s_delete) := ⟨rfl, rfl, rfl, by decide +kernel, rfl, by decide +kernel, by decide +kernel⟩
theorem k_delete : chkB N_delete c_delete (defScope s_delete) (defBody s_delete) = true := by decide +kernel
def d_delete : He.DefD := ⟨("delete", none), "delete", "delete", defArgs s_delete, defBody s_delete, defScope s_delete, [], []⟩
abbrev s_put : Stmt := topS 32
theorem sc_put : FnScope N_put ["store", "name", "key", "entry"] (defScope s_put) := ⟨rfl, rfl, rfl, by decide +kernel, rfl, by decide +kernel, by decide +kernel⟩
theorem k_put : chkB N_put c_put (defScope s_put) (defBody s_put) = true := by decide +kernel
def d_put : He.DefD := ⟨("put", none), "put", "put", defArgs s_put, defBody s_put, defScope s_put, [], []⟩
abbrev s_create : Stmt := topS 31
theorem sc_create : FnScope N_create ["store", "name"] (defScope s_create) := ⟨rfl, rfl, rfl, by decide +kernel, rfl, by decide +kernel, by decide +kernel⟩
theorem k_create : chkB N_create c_create (defScope s_create) (defBody s_create) = true := by decide +kernel
def d_create : He.DefD := ⟨("create", none), "create", "create", defArgs s_create, defBody s_create, defScope s_create, [], []⟩
abbrev s_do : Stmt := topS 35
theorem sc_do : FnScope N_do ["store", "parts"] (defScope s_do) := ⟨rfl, rfl, rfl, by decide +kernel, rfl, by decide +kernel, by decide +kernel⟩
theorem k_do : chkB N_do c_do (defScope s_do) (defBody s_do) = true := by decide +kernel
def d_do : He.DefD := ⟨("do", none), "do", "do", defArgs s_do, defBody s_do, defScope s_do, [], []⟩
abbrev s_Session__do : Stmt := inClass (topS 43) 9
theorem sc_Session__do : FnScope N_Session__do ["self", "parts"] (defScope s_Session__do) := ⟨rfl, rfl, rfl, by decide +kernel, rfl, by decide +kernel, by decide +kernel⟩
theorem k_Session__do : chkB N_Session__do c_Session__do (defScope s_Session__do) (defBody s_Session__do) = true := by decide +kernel
def d_Session__do : He.DefD := ⟨("Session", some "_do"), "_do", "Session._do", defArgs s_Session__do, defBody s_Session__do, defScope s_Session__do, [], []⟩
abbrev s_filled : Stmt := topS 24
theorem sc_filled : FnScope N_filled ["parts", "values"] (defScope s_filled) := ⟨rfl, rfl, rfl, by decide +kernel, rfl, by decide +kernel, by decide +kernel⟩
theorem k_filled : chkB N_filled c_filled (defScope s_filled) (defBody s_filled) = true := by decide +kernel
def d_filled : He.DefD := ⟨("filled", none), "filled", "filled", defArgs s_filled, defBody s_filled, defScope s_filled, [], []⟩
abbrev s_Session__run : Stmt := inClass (topS 43) 8
theorem sc_Session__run : FnScope N_Session__run ["self", "name", "most"] (defScope s_Session__run) := ⟨rfl, rfl, rfl, by decide +kernel, rfl, by decide +kernel, by decide +kernel⟩
theorem k_Session__run : chkB N_Session__run c_Session__run (defScope s_Session__run) (defBody s_Session__run) = true := by decide +kernel
def d_Session__run : He.DefD := ⟨("Session", some "_run"), "_run", "Session._run", defArgs s_Session__run, defBody s_Session__run, defScope s_Session__run, [], []⟩
abbrev s_parameter_numbers : Stmt := topS 21
theorem sc_parameter_numbers : FnScope N_parameter_numbers ["parts"] (defScope s_parameter_numbers) := ⟨rfl, rfl, rfl, by decide +kernel, rfl, by decide +kernel, by decide +kernel⟩
theorem k_parameter_numbers : chkB N_parameter_numbers c_parameter_numbers (defScope s_parameter_numbers) (defBody s_parameter_numbers) = true := by decide +kernel
def d_parameter_numbers : He.DefD := ⟨("parameter_numbers", none), "parameter_numbers", "parameter_numbers", defArgs s_parameter_numbers, defBody s_parameter_numbers, defScope s_parameter_numbers, [], []⟩
abbrev s_parameters : Stmt := topS 22
theorem sc_parameters : FnScope N_parameters ["parts"] (defScope s_parameters) := ⟨rfl, rfl, rfl, by decide +kernel, rfl, by decide +kernel, by decide +kernel⟩
theorem k_parameters : chkB N_parameters c_parameters (defScope s_parameters) (defBody s_parameters) = true := by decide +kernel
def d_parameters : He.DefD := ⟨("parameters", none), "parameters", "parameters", defArgs s_parameters, defBody s_parameters, defScope s_parameters, [], []⟩
abbrev s_Portal___init__ : Stmt := inClass (topS 42) 0
theorem sc_Portal___init__ : FnScope N_Portal___init__ ["self", "parts", "values"] (defScope s_Portal___init__) := ⟨rfl, rfl, rfl, by decide +kernel, rfl, by decide +kernel, by decide +kernel⟩
theorem k_Portal___init__ : chkB N_Portal___init__ c_Portal___init__ (defScope s_Portal___init__) (defBody s_Portal___init__) = true := by decide +kernel
def d_Portal___init__ : He.DefD := ⟨("Portal", some "__init__"), "__init__", "Portal.__init__", defArgs s_Portal___init__, defBody s_Portal___init__, defScope s_Portal___init__, [], []⟩
abbrev s_Session__bind : Stmt := inClass (topS 43) 7
theorem sc_Session__bind : FnScope N_Session__bind ["self", "portal", "name", "values"] (defScope s_Session__bind) := ⟨rfl, rfl, rfl, by decide +kernel, rfl, by decide +kernel, by decide +kernel⟩
theorem k_Session__bind : chkB N_Session__bind c_Session__bind (defScope s_Session__bind) (defBody s_Session__bind) = true := by decide +kernel
def d_Session__bind : He.DefD := ⟨("Session", some "_bind"), "_bind", "Session._bind", defArgs s_Session__bind, defBody s_Session__bind, defScope s_Session__bind, [], []⟩
abbrev s_number_of : Stmt := topS 19
theorem sc_number_of : FnScope N_number_of ["part"] (defScope s_number_of) := ⟨rfl, rfl, rfl, by decide +kernel, rfl, by decide +kernel, by decide +kernel⟩
theorem k_number_of : chkB N_number_of c_number_of (defScope s_number_of) (defBody s_number_of) = true := by decide +kernel
def d_number_of : He.DefD := ⟨("number_of", none), "number_of", "number_of", defArgs s_number_of, defBody s_number_of, defScope s_number_of, [], []⟩
abbrev s_is_string : Stmt := topS 11
theorem sc_is_string : FnScope N_is_string ["value"] (defScope s_is_string) := ⟨rfl, rfl, rfl, by decide +kernel, rfl, by decide +kernel, by decide +kernel⟩
theorem k_is_string : chkB N_is_string c_is_string (defScope s_is_string) (defBody s_is_string) = true := by decide +kernel
def d_is_string : He.DefD := ⟨("is_string", none), "is_string", "is_string", defArgs s_is_string, defBody s_is_string, defScope s_is_string, [], []⟩
abbrev s_is_text : Stmt := topS 12
theorem sc_is_text : FnScope N_is_text ["value"] (defScope s_is_text) := ⟨rfl, rfl, rfl, by decide +kernel, rfl, by decide +kernel, by decide +kernel⟩
theorem k_is_text : chkB N_is_text c_is_text (defScope s_is_text) (defBody s_is_text) = true := by decide +kernel
def d_is_text : He.DefD := ⟨("is_text", none), "is_text", "is_text", defArgs s_is_text, defBody s_is_text, defScope s_is_text, [], []⟩
abbrev s_term_of : Stmt := topS 20
theorem sc_term_of : FnScope N_term_of ["part"] (defScope s_term_of) := ⟨rfl, rfl, rfl, by decide +kernel, rfl, by decide +kernel, by decide +kernel⟩
theorem k_term_of : chkB N_term_of c_term_of (defScope s_term_of) (defBody s_term_of) = true := by decide +kernel
def d_term_of : He.DefD := ⟨("term_of", none), "term_of", "term_of", defArgs s_term_of, defBody s_term_of, defScope s_term_of, [], []⟩
abbrev s_is_name : Stmt := topS 10
theorem sc_is_name : FnScope N_is_name ["value"] (defScope s_is_name) := ⟨rfl, rfl, rfl, by decide +kernel, rfl, by decide +kernel, by decide +kernel⟩
theorem k_is_name : chkB N_is_name c_is_name (defScope s_is_name) (defBody s_is_name) = true := by decide +kernel
def d_is_name : He.DefD := ⟨("is_name", none), "is_name", "is_name", defArgs s_is_name, defBody s_is_name, defScope s_is_name, [], []⟩
abbrev s_first_part : Stmt := topS 17
theorem sc_first_part : FnScope N_first_part ["string"] (defScope s_first_part) := ⟨rfl, rfl, rfl, by decide +kernel, rfl, by decide +kernel, by decide +kernel⟩
theorem k_first_part : chkB N_first_part c_first_part (defScope s_first_part) (defBody s_first_part) = true := by decide +kernel
def d_first_part : He.DefD := ⟨("first_part", none), "first_part", "first_part", defArgs s_first_part, defBody s_first_part, defScope s_first_part, [], []⟩
abbrev s_parts_of : Stmt := topS 18
theorem sc_parts_of : FnScope N_parts_of ["string"] (defScope s_parts_of) := ⟨rfl, rfl, rfl, by decide +kernel, rfl, by decide +kernel, by decide +kernel⟩
theorem k_parts_of : chkB N_parts_of c_parts_of (defScope s_parts_of) (defBody s_parts_of) = true := by decide +kernel
def d_parts_of : He.DefD := ⟨("parts_of", none), "parts_of", "parts_of", defArgs s_parts_of, defBody s_parts_of, defScope s_parts_of, [], []⟩
abbrev s_read_statement : Stmt := topS 23
theorem sc_read_statement : FnScope N_read_statement ["string"] (defScope s_read_statement) := ⟨rfl, rfl, rfl, by decide +kernel, rfl, by decide +kernel, by decide +kernel⟩
theorem k_read_statement : chkB N_read_statement c_read_statement (defScope s_read_statement) (defBody s_read_statement) = true := by decide +kernel
def d_read_statement : He.DefD := ⟨("read_statement", none), "read_statement", "read_statement", defArgs s_read_statement, defBody s_read_statement, defScope s_read_statement, [], []⟩
abbrev s_Session__prepare : Stmt := inClass (topS 43) 6
theorem sc_Session__prepare : FnScope N_Session__prepare ["self", "name", "string"] (defScope s_Session__prepare) := ⟨rfl, rfl, rfl, by decide +kernel, rfl, by decide +kernel, by decide +kernel⟩
theorem k_Session__prepare : chkB N_Session__prepare c_Session__prepare (defScope s_Session__prepare) (defBody s_Session__prepare) = true := by decide +kernel
def d_Session__prepare : He.DefD := ⟨("Session", some "_prepare"), "_prepare", "Session._prepare", defArgs s_Session__prepare, defBody s_Session__prepare, defScope s_Session__prepare, [], []⟩
abbrev s_Session__run_command : Stmt := inClass (topS 43) 5
theorem sc_Session__run_command : FnScope N_Session__run_command ["self", "command"] (defScope s_Session__run_command) := ⟨rfl, rfl, rfl, by decide +kernel, rfl, by decide +kernel, by decide +kernel⟩
theorem k_Session__run_command : chkB N_Session__run_command c_Session__run_command (defScope s_Session__run_command) (defBody s_Session__run_command) = true := by decide +kernel
def d_Session__run_command : He.DefD := ⟨("Session", some "_run_command"), "_run_command", "Session._run_command", defArgs s_Session__run_command, defBody s_Session__run_command, defScope s_Session__run_command, [], []⟩
abbrev s_Session__reply : Stmt := inClass (topS 43) 4
theorem sc_Session__reply : FnScope N_Session__reply ["self", "command"] (defScope s_Session__reply) := ⟨rfl, rfl, rfl, by decide +kernel, rfl, by decide +kernel, by decide +kernel⟩
theorem k_Session__reply : chkB N_Session__reply c_Session__reply (defScope s_Session__reply) (defBody s_Session__reply) = true := by decide +kernel
def d_Session__reply : He.DefD := ⟨("Session", some "_reply"), "_reply", "Session._reply", defArgs s_Session__reply, defBody s_Session__reply, defScope s_Session__reply, [], []⟩
abbrev s_Session_run_batch : Stmt := inClass (topS 43) 3
theorem sc_Session_run_batch : FnScope N_Session_run_batch ["self", "commands"] (defScope s_Session_run_batch) := ⟨rfl, rfl, rfl, by decide +kernel, rfl, by decide +kernel, by decide +kernel⟩
theorem k_Session_run_batch : chkB N_Session_run_batch c_Session_run_batch (defScope s_Session_run_batch) (defBody s_Session_run_batch) = true := by decide +kernel
def d_Session_run_batch : He.DefD := ⟨("Session", some "run_batch"), "run_batch", "Session.run_batch", defArgs s_Session_run_batch, defBody s_Session_run_batch, defScope s_Session_run_batch, [], []⟩
abbrev s__law_named_hold : Stmt := topS 50
theorem sc__law_named_hold : FnScope N__law_named_hold ["_law_count"] (defScope s__law_named_hold) := ⟨rfl, rfl, rfl, by decide +kernel, rfl, by decide +kernel, by decide +kernel⟩
theorem k__law_named_hold : chkB N__law_named_hold c__law_named_hold (defScope s__law_named_hold) (defBody s__law_named_hold) = true := by decide +kernel
def d__law_named_hold : He.DefD := ⟨("_law_named_hold", none), "_law_named_hold", "_law_named_hold", defArgs s__law_named_hold, defBody s__law_named_hold, defScope s__law_named_hold, [], []⟩
abbrev s__law_cell : Stmt := topS 45
theorem sc__law_cell : FnScope N__law_cell ["_law_script", "_law_k"] (defScope s__law_cell) := ⟨rfl, rfl, rfl, by decide +kernel, rfl, by decide +kernel, by decide +kernel⟩
theorem k__law_cell : chkB N__law_cell c__law_cell (defScope s__law_cell) (defBody s__law_cell) = true := by decide +kernel
def d__law_cell : He.DefD := ⟨("_law_cell", none), "_law_cell", "_law_cell", defArgs s__law_cell, defBody s__law_cell, defScope s__law_cell, [], []⟩
abbrev s__law_did7 : Stmt := topS 47
theorem sc__law_did7 : FnScope N__law_did7 ["_law_session", "_law_string", "_law_values"] (defScope s__law_did7) := ⟨rfl, rfl, rfl, by decide +kernel, rfl, by decide +kernel, by decide +kernel⟩
theorem k__law_did7 : chkB N__law_did7 c__law_did7 (defScope s__law_did7) (defBody s__law_did7) = true := by decide +kernel
def d__law_did7 : He.DefD := ⟨("_law_did", none), "_law_did", "_law_did", defArgs s__law_did7, defBody s__law_did7, defScope s__law_did7, [], []⟩
abbrev s_tables_of : Stmt := topS 29
theorem sc_tables_of : FnScope N_tables_of ["store"] (defScope s_tables_of) := ⟨rfl, rfl, rfl, by decide +kernel, rfl, by decide +kernel, by decide +kernel⟩
theorem k_tables_of : chkB N_tables_of c_tables_of (defScope s_tables_of) (defBody s_tables_of) = true := by decide +kernel
def d_tables_of : He.DefD := ⟨("tables_of", none), "tables_of", "tables_of", defArgs s_tables_of, defBody s_tables_of, defScope s_tables_of, [], []⟩
abbrev s_Session_tables : Stmt := inClass (topS 43) 1
theorem sc_Session_tables : FnScope N_Session_tables ["self"] (defScope s_Session_tables) := ⟨rfl, rfl, rfl, by decide +kernel, rfl, by decide +kernel, by decide +kernel⟩
theorem k_Session_tables : chkB N_Session_tables c_Session_tables (defScope s_Session_tables) (defBody s_Session_tables) = true := by decide +kernel
def d_Session_tables : He.DefD := ⟨("Session", some "tables"), "tables", "Session.tables", defArgs s_Session_tables, defBody s_Session_tables, defScope s_Session_tables, [], []⟩
abbrev s__law_tables_hold : Stmt := topS 49
theorem sc__law_tables_hold : FnScope N__law_tables_hold ["_law_count"] (defScope s__law_tables_hold) := ⟨rfl, rfl, rfl, by decide +kernel, rfl, by decide +kernel, by decide +kernel⟩
theorem k__law_tables_hold : chkB N__law_tables_hold c__law_tables_hold (defScope s__law_tables_hold) (defBody s__law_tables_hold) = true := by decide +kernel
def d__law_tables_hold : He.DefD := ⟨("_law_tables_hold", none), "_law_tables_hold", "_law_tables_hold", defArgs s__law_tables_hold, defBody s__law_tables_hold, defScope s__law_tables_hold, [], []⟩
abbrev s__law_saves_hold : Stmt := topS 52
theorem sc__law_saves_hold : FnScope N__law_saves_hold ["_law_count"] (defScope s__law_saves_hold) := ⟨rfl, rfl, rfl, by decide +kernel, rfl, by decide +kernel, by decide +kernel⟩
theorem k__law_saves_hold : chkB N__law_saves_hold c__law_saves_hold (defScope s__law_saves_hold) (defBody s__law_saves_hold) = true := by decide +kernel
def d__law_saves_hold : He.DefD := ⟨("_law_saves_hold", none), "_law_saves_hold", "_law_saves_hold", defArgs s__law_saves_hold, defBody s__law_saves_hold, defScope s__law_saves_hold, [], []⟩
abbrev s__law_portals_hold : Stmt := topS 51
theorem sc__law_portals_hold : FnScope N__law_portals_hold [] (defScope s__law_portals_hold) := ⟨rfl, rfl, rfl, by decide +kernel, rfl, by decide +kernel, by decide +kernel⟩
theorem k__law_portals_hold : chkB N__law_portals_hold c__law_portals_hold (defScope s__law_portals_hold) (defBody s__law_portals_hold) = true := by decide +kernel
def d__law_portals_hold : He.DefD := ⟨("_law_portals_hold", none), "_law_portals_hold", "_law_portals_hold", defArgs s__law_portals_hold, defBody s__law_portals_hold, defScope s__law_portals_hold, [], []⟩
abbrev s_law9 : Stmt := topS 53
theorem sc_law9 : FnScope N_law9 ["_law_script"] (defScope s_law9) := ⟨rfl, rfl, rfl, by decide +kernel, rfl, by decide +kernel, by decide +kernel⟩
theorem k_law9 : chkB N_law9 c_law9 (defScope s_law9) (defBody s_law9) = true := by decide +kernel
def d_law9 : He.DefD := ⟨("law", none), "law", "law", defArgs s_law9, defBody s_law9, defScope s_law9, [], []⟩
def fnL : List He.DefD := [d_store_of, d_Session___init__, d_Session__end, d_Session__undo, d_Session__save, d_Session__begin, d_rank, d_found, d_without, d_delete, d_put, d_create, d_do, d_Session__do, d_filled, d_Session__run, d_parameter_numbers, d_parameters, d_Portal___init__, d_Session__bind, d_number_of, d_is_string, d_is_text, d_term_of, d_is_name, d_first_part, d_parts_of, d_read_statement, d_Session__prepare, d_Session__run_command, d_Session__reply, d_Session_run_batch, d__law_named_hold, d__law_cell, d__law_did7, d_tables_of, d_Session_tables, d__law_tables_hold, d__law_saves_hold, d__law_portals_hold, d_law9]
def faL : List He.Fa := [.glo "store_of", .free "tuple", .glo "Session", .cls "Session", .mkr "Session", .noat "Session" "_store", .noat "Session" "_base", .free "dict", .noat "Session" "_state", .noat "Session" "_savepoints", .noat "Session" "_statements", .noat "Session" "_portals", .meth "Session" "_end", .meth "Session" "_undo", .free "enumerate", .meth "Session" "_save", .free "len", .int "MOST_SAVEPOINTS" 10, .meth "Session" "_begin", .glo "rank", .free "isinstance", .free "str", .glo "found", .free "list", .glo "without", .glo "delete", .glo "put", .free "sorted", .int "MOST_ROWS" 20, .glo "create", .int "MOST_TABLES" 4, .glo "do", .meth "Session" "_do", .glo "TRANSACTIONS", .glo "filled", .meth "Session" "_run", .glo "Portal", .cls "Portal", .noat "Portal" "parts", .glo "ENDINGS", .noat "Portal" "is_done", .noat "Portal" "rows", .noat "Portal" "given", .glo "parameter_numbers", .glo "parameters", .free "max", .mkr "Portal", .meth "Session" "_bind", .int "MOST_PORTALS" 8, .glo "number_of", .int "LEAST" (-2147483648), .int "GREATEST" 2147483647, .free "int", .free "all", .str "DIGITS" "0123456789", .glo "is_string", .str "SIGNS" " !\"#$&'()*+,-./0123456789:;<=>?@ABCDEFGHIJKLMNOPQRSTUVWXYZ[\\]^_`abcdefghijklmnopqrstuvwxyz{|}~", .int "LONGEST_STRING" 200, .glo "is_text", .int "LONGEST_TEXT" 40, .glo "term_of", .int "MOST_PARAMETERS" 4, .glo "is_name", .str "LETTERS" "abcdefghijklmnopqrstuvwxyz", .int "LONGEST_NAME" 8, .glo "first_part", .glo "parts_of", .glo "read_statement", .free "range", .glo "FORMS", .meth "Session" "_prepare", .int "MOST_STATEMENTS" 8, .meth "Session" "_run_command", .meth "Session" "_reply", .meth "Session" "run_batch", .glo "_law_named_hold", .free "min", .glo "_law_cell", .glo "_law_did", .glo "tables_of", .meth "Session" "tables", .glo "_law_tables_hold", .glo "_law_saves_hold", .glo "_law_portals_hold", .glo "law"]
def tsL : List (Str × List (Str × List Int)) := [("FORMS", [("create", [1]), ("drop", [1]), ("put", [3]), ("delete", [2]), ("get", [2]), ("scan", [1, 3]), ("total", [1]), ("begin", [0]), ("commit", [0]), ("rollback", [0]), ("save", [1]), ("undo", [1])])]
def usL : List (Str × List Str) := [("ENDINGS", ["commit", "rollback", "undo"]), ("TRANSACTIONS", ["begin", "commit", "rollback", "save", "undo"])]
def cxL : List Str := ["number_of", "is_string", "is_name", "read_statement"]
def lmL : List Str := ["put"]
def emL : List (Str × Option Str) := [("Session", some "__init__")]
def clsL (K : PySem.W.Frag) (p0 : Addr) : Nat → Addr := fun i => if i = 10 then He.ga K "Portal" else if i = 11 then He.ga K "Session" else if i = 1000 then p0 else 0
section
variable {B : Bs} {T : List Addr} {cls : Nat → Addr}
theorem ok_store_of {f : Addr} {fd : FuncData} (F : Fun B.K "store_of" "store_of" s_store_of f fd) (z_tuple : B.mg "tuple" = none) : FnOk B.P B.w B.K B.mg B.base (L2.CX B.P B.w) 1 f fd ["tables"] (lift ⟨B.K, T, cls⟩ sp_store_of) := by
  refine fn_ok (cd := False) (c := c_store_of) F sc_store_of k_store_of ?_ (fun z => z.elim) (fun z => absurd z (by decide +kernel)) w_store_of ?_
  · simp only [c_store_of, okS, okE, true_and, and_true, and_assoc]
    repeat' (with_reducible refine And.intro ?_ ?_)
    all_goals first | exact trivial | exact c_tup z_tuple
  · intro ds μ Q QX h
    simp only [sp_store_of] at h
    split at h <;> first | rfl | exact h.elim
theorem ok_Session___init__ {f : Addr} {fd : FuncData} {dvs : List V} (F : FunD B.K "__init__" "Session.__init__" (defArgs s_Session___init__) (defBody s_Session___init__) (defScope s_Session___init__) dvs [] f fd) (f__store : FdC B cls [11] "_store") (f__base : FdC B cls [11] "_base") (z_dict : B.mg "dict" = none) (f__state : FdC B cls [11] "_state") (f__savepoints : FdC B cls [11] "_savepoints") (f__statements : FdC B cls [11] "_statements") (f__portals : FdC B cls [11] "_portals") (h_store_of : ∀ k, 1 ≤ k → CalC B T cls k "store_of" sp_store_of) : FnOk B.P B.w B.K B.mg B.base (L2.CX B.P B.w) 2 f fd ["self", "tables"] (lift ⟨B.K, T, cls⟩ sp_Session___init__) := by
  refine fn_okD (c := c_Session___init__) F sc_Session___init__ k_Session___init__ ?_ (by decide +kernel) w_Session___init__ ?_
  · simp only [c_Session___init__, r1_Session___init__, r2_Session___init__, r3_Session___init__, r4_Session___init__, r5_Session___init__, okS, okE, true_and, and_true, and_assoc]
    repeat' (with_reducible refine And.intro ?_ ?_)
    all_goals first | exact trivial | exact n_fld f__store | exact n_set f__store | exact n_fld f__base | exact n_set f__base | exact c_dct z_dict | exact n_fld f__state | exact n_set f__state | exact n_fld f__savepoints | exact n_set f__savepoints | exact n_fld f__statements | exact n_set f__statements | exact n_fld f__portals | exact n_set f__portals | exact n_dnil | exact h_store_of _ (by decide)
  · intro ds μ Q QX h
    simp only [sp_Session___init__] at h
    split at h <;> first | rfl | exact h.elim
theorem ok_Session__end {f : Addr} {fd : FuncData} (F : Fun B.K "_end" "Session._end" s_Session__end f fd) (f__state : FdC B cls [11] "_state") (f__base : FdC B cls [11] "_base") (z_dict : B.mg "dict" = none) (f__store : FdC B cls [11] "_store") (f__savepoints : FdC B cls [11] "_savepoints") (f__portals : FdC B cls [11] "_portals") : FnOk B.P B.w B.K B.mg B.base (L2.CX B.P B.w) 1 f fd ["self", "word"] (lift ⟨B.K, T, cls⟩ sp_Session__end) := by
  refine fn_ok (cd := False) (c := c_Session__end) F sc_Session__end k_Session__end ?_ (fun z => z.elim) (fun z => absurd z (by decide +kernel)) w_Session__end ?_
  · simp only [c_Session__end, r1_Session__end, r2_Session__end, r3_Session__end, r4_Session__end, r5_Session__end, r6_Session__end, okS, okE, true_and, and_true, and_assoc]
    repeat' (with_reducible refine And.intro ?_ ?_)
    all_goals first | exact trivial | exact n_fld f__state | exact n_set f__state | exact n_fld f__base | exact n_set f__base | exact c_dct z_dict | exact n_fld f__store | exact n_set f__store | exact n_fld f__savepoints | exact n_set f__savepoints | exact n_fld f__portals | exact n_set f__portals | exact n_dnil
  · intro ds μ Q QX h
    simp only [sp_Session__end] at h
    split at h <;> first | rfl | exact h.elim
theorem ok_Session__undo {f : Addr} {fd : FuncData} (F : Fun B.K "_undo" "Session._undo" s_Session__undo f fd) (z_enumerate : B.mg "enumerate" = none) (f__savepoints : FdC B cls [11] "_savepoints") (f__store : FdC B cls [11] "_store") (z_dict : B.mg "dict" = none) (f__state : FdC B cls [11] "_state") : FnOk B.P B.w B.K B.mg B.base (L2.CX B.P B.w) 1 f fd ["self", "name"] (lift ⟨B.K, T, cls⟩ sp_Session__undo) := by
  refine fn_ok (cd := False) (c := c_Session__undo) F sc_Session__undo k_Session__undo ?_ (fun z => z.elim) (fun z => absurd z (by decide +kernel)) w_Session__undo ?_
  · simp only [c_Session__undo, r1_Session__undo, r2_Session__undo, r3_Session__undo, r4_Session__undo, r5_Session__undo, okS, okE, true_and, and_true, and_assoc]
    repeat' (with_reducible refine And.intro ?_ ?_)
    all_goals first | exact trivial | exact z_enumerate | exact n_fld f__savepoints | exact n_set f__savepoints | exact n_fld f__store | exact n_set f__store | exact c_dct z_dict | exact n_slM | exact n_fld f__state | exact n_set f__state
  · intro ds μ Q QX h
    simp only [sp_Session__undo] at h
    split at h <;> first | rfl | exact h.elim
theorem ok_Session__save {f : Addr} {fd : FuncData} (F : Fun B.K "_save" "Session._save" s_Session__save f fd) (f__savepoints : FdC B cls [11] "_savepoints") (z_dict : B.mg "dict" = none) (f__store : FdC B cls [11] "_store") (z_len : B.mg "len" = none) (y_MOST_SAVEPOINTS : ∃ t, B.mg "MOST_SAVEPOINTS" = some (.int 10 t)) : FnOk B.P B.w B.K B.mg B.base (L2.CX B.P B.w) 1 f fd ["self", "name"] (lift ⟨B.K, T, cls⟩ sp_Session__save) := by
  refine fn_ok (cd := False) (c := c_Session__save) F sc_Session__save k_Session__save ?_ (fun z => z.elim) (fun z => absurd z (by decide +kernel)) w_Session__save ?_
  · simp only [c_Session__save, okS, okE, true_and, and_true, and_assoc]
    repeat' (with_reducible refine And.intro ?_ ?_)
    all_goals first | exact trivial | exact m_app | exact n_fld f__savepoints | exact n_set f__savepoints | exact c_dct z_dict | exact n_fld f__store | exact n_set f__store | exact c_len z_len | exact (let ⟨t, e⟩ := y_MOST_SAVEPOINTS; ⟨_, .int 10, e, ⟨t, rfl⟩, fun _ => rfl⟩)
  · intro ds μ Q QX h
    simp only [sp_Session__save] at h
    split at h <;> first | rfl | exact h.elim
theorem ok_Session__begin {f : Addr} {fd : FuncData} (F : Fun B.K "_begin" "Session._begin" s_Session__begin f fd) (f__state : FdC B cls [11] "_state") : FnOk B.P B.w B.K B.mg B.base (L2.CX B.P B.w) 1 f fd ["self"] (lift ⟨B.K, T, cls⟩ sp_Session__begin) := by
  refine fn_ok (cd := False) (c := c_Session__begin) F sc_Session__begin k_Session__begin ?_ (fun z => z.elim) (fun z => absurd z (by decide +kernel)) w_Session__begin ?_
  · simp only [c_Session__begin, okS, okE, true_and, and_true, and_assoc]
    repeat' (with_reducible refine And.intro ?_ ?_)
    all_goals first | exact trivial | exact n_fld f__state | exact n_set f__state
  · intro ds μ Q QX h
    simp only [sp_Session__begin] at h
    split at h <;> first | rfl | exact h.elim
theorem ok_rank {f : Addr} {fd : FuncData} (F : Fun B.K "rank" "rank" s_rank f fd) (z_isinstance : B.mg "isinstance" = none) (z_str : B.mg "str" = none) : FnOk B.P B.w B.K B.mg B.base (L2.CX B.P B.w) 1 f fd ["value"] (lift ⟨B.K, T, cls⟩ sp_rank) := by
  refine fn_ok (cd := False) (c := c_rank) F sc_rank k_rank ?_ (fun z => z.elim) (fun z => absurd z (by decide +kernel)) w_rank ?_
  · simp only [c_rank, okS, okE, true_and, and_true, and_assoc]
    repeat' (with_reducible refine And.intro ?_ ?_)
    all_goals first | exact trivial | exact c_isi z_isinstance | exact ⟨z_str, by decide +kernel, by decide +kernel⟩
  · intro ds μ Q QX h
    simp only [sp_rank] at h
    split at h <;> first | rfl | exact h.elim
theorem ok_found {f : Addr} {fd : FuncData} (F : Fun B.K "found" "found" s_found f fd) (z_len : B.mg "len" = none) (z_list : B.mg "list" = none) (h_rank : ∀ k, 1 ≤ k → CalC B T cls k "rank" sp_rank) : FnOk B.P B.w B.K B.mg B.base (L2.CX B.P B.w) 2 f fd ["store", "word", "name", "values"] (lift ⟨B.K, T, cls⟩ sp_found) := by
  refine fn_ok (cd := False) (c := c_found) F sc_found k_found ?_ (fun z => z.elim) (fun z => absurd z (by decide +kernel)) w_found ?_
  · simp only [c_found, okS, okE, true_and, and_true, and_assoc]
    repeat' (with_reducible refine And.intro ?_ ?_)
    all_goals first | exact trivial | exact c_len z_len | exact c_lst z_list | exact h_rank _ (by decide)
  · intro ds μ Q QX h
    simp only [sp_found] at h
    split at h <;> first | rfl | exact h.elim
theorem ok_without {f : Addr} {fd : FuncData} (F : Fun B.K "without" "without" s_without f fd)  : FnOk B.P B.w B.K B.mg B.base (L2.CX B.P B.w) 1 f fd ["rows", "key"] (lift ⟨B.K, T, cls⟩ sp_without) := by
  refine fn_ok (cd := False) (c := c_without) F sc_without k_without ?_ (fun z => z.elim) (fun z => absurd z (by decide +kernel)) w_without ?_
  · simp only [c_without, okS, okE, true_and, and_true, and_assoc]
    repeat' (with_reducible refine And.intro ?_ ?_)
    all_goals first | exact trivial
  · intro ds μ Q QX h
    simp only [sp_without] at h
    split at h <;> first | rfl | exact h.elim
theorem ok_delete {f : Addr} {fd : FuncData} (F : Fun B.K "delete" "delete" s_delete f fd) (z_tuple : B.mg "tuple" = none) (z_len : B.mg "len" = none) (h_without : ∀ k, 1 ≤ k → CalC B T cls k "without" sp_without) : FnOk B.P B.w B.K B.mg B.base (L2.CX B.P B.w) 2 f fd ["store", "name", "key"] (lift ⟨B.K, T, cls⟩ sp_delete) := by
  refine fn_ok (cd := False) (c := c_delete) F sc_delete k_delete ?_ (fun z => z.elim) (fun z => absurd z (by decide +kernel)) w_delete ?_
  · simp only [c_delete, okS, okE, true_and, and_true, and_assoc]
    repeat' (with_reducible refine And.intro ?_ ?_)
    all_goals first | exact trivial | exact c_tup z_tuple | exact c_len z_len | exact h_without _ (by decide)
  · intro ds μ Q QX h
    simp only [sp_delete] at h
    split at h <;> first | rfl | exact h.elim
theorem ok_put {f : Addr} {fd : FuncData} (F : Fun B.K "put" "put" s_put f fd) (hl : ∀ cdv, PySem.W.codeIn B.K cdv "put" = true → (∃ oc od kV doc pm an ct osl, B.K.lookup f = some ⟨oc, od, .func (PySem.W.fnOf "put" "put" (defArgs s_put) (defBody s_put) (defScope s_put) .none kV doc pm an cdv ct), osl⟩) → ∃ c, cdv = .ref c ∧ LamX.TabB B.base B.mg c (cls 1000)) (z_tuple : B.mg "tuple" = none) (z_sorted : B.mg "sorted" = none) (z1000 : cls 1000 ≠ 0) (h_rank : ∀ k, 1 ≤ k → CalC B T cls k "rank" sp_rank) (z_len : B.mg "len" = none) (y_MOST_ROWS : ∃ t, B.mg "MOST_ROWS" = some (.int 20 t)) (h_without : ∀ k, 1 ≤ k → CalC B T cls k "without" sp_without) : FnOk B.P B.w B.K B.mg B.base (L2.CX B.P B.w) 5 f fd ["store", "name", "key", "entry"] (lift ⟨B.K, T, cls⟩ sp_put) := by
  refine fn_ok (cd := False) (c := c_put) F sc_put k_put ?_ (fun z => z.elim) (fun _ => ⟨by decide +kernel, hl⟩) w_put ?_
  · simp only [c_put, okS, okE, true_and, and_true, and_assoc]
    repeat' (with_reducible refine And.intro ?_ ?_)
    all_goals first | exact trivial | exact c_tup z_tuple | exact n_srt (j := 1) z_sorted z1000 (by decide) (by simp only [okE, true_and, and_true]; exact h_rank _ (by decide)) | exact c_len z_len | exact (let ⟨t, e⟩ := y_MOST_ROWS; ⟨_, .int 20, e, ⟨t, rfl⟩, fun _ => rfl⟩) | exact h_without _ (by decide)
  · intro ds μ Q QX h
    simp only [sp_put] at h
    split at h <;> first | rfl | exact h.elim
theorem ok_create {f : Addr} {fd : FuncData} (F : Fun B.K "create" "create" s_create f fd) (z_len : B.mg "len" = none) (y_MOST_TABLES : ∃ t, B.mg "MOST_TABLES" = some (.int 4 t)) : FnOk B.P B.w B.K B.mg B.base (L2.CX B.P B.w) 1 f fd ["store", "name"] (lift ⟨B.K, T, cls⟩ sp_create) := by
  refine fn_ok (cd := False) (c := c_create) F sc_create k_create ?_ (fun z => z.elim) (fun z => absurd z (by decide +kernel)) w_create ?_
  · simp only [c_create, okS, okE, true_and, and_true, and_assoc]
    repeat' (with_reducible refine And.intro ?_ ?_)
    all_goals first | exact trivial | exact c_lenD z_len | exact (let ⟨t, e⟩ := y_MOST_TABLES; ⟨_, .int 4, e, ⟨t, rfl⟩, fun _ => rfl⟩)
  · intro ds μ Q QX h
    simp only [sp_create] at h
    split at h <;> first | rfl | exact h.elim
theorem ok_do {f : Addr} {fd : FuncData} (F : Fun B.K "do" "do" s_do f fd) (z_len : B.mg "len" = none) (h_found : ∀ k, 2 ≤ k → CalC B T cls k "found" sp_found) (h_delete : ∀ k, 2 ≤ k → CalC B T cls k "delete" sp_delete) (h_put : ∀ k, 5 ≤ k → CalC B T cls k "put" sp_put) (h_create : ∀ k, 1 ≤ k → CalC B T cls k "create" sp_create) : FnOk B.P B.w B.K B.mg B.base (L2.CX B.P B.w) 6 f fd ["store", "parts"] (lift ⟨B.K, T, cls⟩ sp_do) := by
  refine fn_ok (cd := False) (c := c_do) F sc_do k_do ?_ (fun z => z.elim) (fun z => absurd z (by decide +kernel)) w_do ?_
  · simp only [c_do, okS, okE, true_and, and_true, and_assoc]
    repeat' (with_reducible refine And.intro ?_ ?_)
    all_goals first | exact trivial | exact c_len z_len | exact m_dpop | exact n_par | exact h_found _ (by decide) | exact h_delete _ (by decide) | exact h_put _ (by decide) | exact h_create _ (by decide)
  · intro ds μ Q QX h
    simp only [sp_do] at h
    split at h <;> first | rfl | exact h.elim
theorem ok_Session__do {f : Addr} {fd : FuncData} (F : Fun B.K "_do" "Session._do" s_Session__do f fd) (f__state : FdC B cls [11] "_state") (t_TRANSACTIONS : GtC B "TRANSACTIONS" ["begin", "commit", "rollback", "save", "undo"]) (f__store : FdC B cls [11] "_store") (h_Session__end : ∀ k, 1 ≤ k → MeC B T cls k 11 "_end" sp_Session__end) (h_Session__undo : ∀ k, 1 ≤ k → MeC B T cls k 11 "_undo" sp_Session__undo) (h_Session__save : ∀ k, 1 ≤ k → MeC B T cls k 11 "_save" sp_Session__save) (h_Session__begin : ∀ k, 1 ≤ k → MeC B T cls k 11 "_begin" sp_Session__begin) (h_do : ∀ k, 6 ≤ k → CalC B T cls k "do" sp_do) : FnOk B.P B.w B.K B.mg B.base (L2.CX B.P B.w) 7 f fd ["self", "parts"] (lift ⟨B.K, T, cls⟩ sp_Session__do) := by
  refine fn_ok (cd := False) (c := c_Session__do) F sc_Session__do k_Session__do ?_ (fun z => z.elim) (fun z => absurd z (by decide +kernel)) w_Session__do ?_
  · simp only [c_Session__do, okS, okE, true_and, and_true, and_assoc]
    repeat' (with_reducible refine And.intro ?_ ?_)
    all_goals first | exact trivial | exact one_met (h_Session__end _ (by decide)) | exact one_met (h_Session__undo _ (by decide)) | exact one_met (h_Session__save _ (by decide)) | exact n_fld f__state | exact n_set f__state | exact one_met (h_Session__begin _ (by decide)) | exact t_TRANSACTIONS.glb | exact n_fld f__store | exact n_set f__store | exact h_do _ (by decide)
  · intro ds μ Q QX h
    simp only [sp_Session__do] at h
    split at h <;> first | rfl | exact h.elim
theorem ok_filled {f : Addr} {fd : FuncData} (F : Fun B.K "filled" "filled" s_filled f fd) (z_isinstance : B.mg "isinstance" = none) (z_tuple : B.mg "tuple" = none) (z_list : B.mg "list" = none) : FnOk B.P B.w B.K B.mg B.base (L2.CX B.P B.w) 1 f fd ["parts", "values"] (lift ⟨B.K, T, cls⟩ sp_filled) := by
  refine fn_ok (cd := False) (c := c_filled) F sc_filled k_filled ?_ (fun z => z.elim) (fun z => absurd z (by decide +kernel)) w_filled ?_
  · simp only [c_filled, b1_filled, okS, okE, true_and, and_true, and_assoc]
    repeat' (with_reducible refine And.intro ?_ ?_)
    all_goals first | exact trivial | exact c_isi z_isinstance | exact ⟨z_tuple, by decide +kernel, by decide +kernel⟩ | exact m_app | exact c_lstM z_list
  · intro ds μ Q QX h
    simp only [sp_filled] at h
    split at h <;> first | rfl | exact h.elim
theorem ok_Session__run {f : Addr} {fd : FuncData} (F : Fun B.K "_run" "Session._run" s_Session__run f fd) (f__portals : FdC B cls [11] "_portals") (f_parts : FdC B cls [10] "parts") (t_ENDINGS : GtC B "ENDINGS" ["commit", "rollback", "undo"]) (f__state : FdC B cls [11] "_state") (f_is_done : FdC B cls [10] "is_done") (f_rows : FdC B cls [10] "rows") (f_given : FdC B cls [10] "given") (z_len : B.mg "len" = none) (h_Session__do : ∀ k, 7 ≤ k → MeC B T cls k 11 "_do" sp_Session__do) (h_filled : ∀ k, 1 ≤ k → CalC B T cls k "filled" sp_filled) : FnOk B.P B.w B.K B.mg B.base (L2.CX B.P B.w) 8 f fd ["self", "name", "most"] (lift ⟨B.K, T, cls⟩ sp_Session__run) := by
  refine fn_ok (cd := False) (c := c_Session__run) F sc_Session__run k_Session__run ?_ (fun z => z.elim) (fun z => absurd z (by decide +kernel)) w_Session__run ?_
  · simp only [c_Session__run, r1_Session__run, r2_Session__run, r3_Session__run, r4_Session__run, r5_Session__run, r6_Session__run, r7_Session__run, r8_Session__run, r9_Session__run, okS, okE, true_and, and_true, and_assoc]
    repeat' (with_reducible refine And.intro ?_ ?_)
    all_goals first | exact trivial | exact n_fld f__portals | exact n_set f__portals | exact n_fld f_parts | exact n_set f_parts | exact t_ENDINGS.glb | exact n_fld f__state | exact n_set f__state | exact n_fld f_is_done | exact n_set f_is_done | exact n_fld f_rows | exact n_set f_rows | exact one_met (h_Session__do _ (by decide)) | exact n_fld f_given | exact n_set f_given | exact c_len z_len | exact h_filled _ (by decide)
  · intro ds μ Q QX h
    simp only [sp_Session__run] at h
    split at h <;> first | rfl | exact h.elim
theorem ok_parameter_numbers {f : Addr} {fd : FuncData} (F : Fun B.K "parameter_numbers" "parameter_numbers" s_parameter_numbers f fd) (z_isinstance : B.mg "isinstance" = none) (z_list : B.mg "list" = none) (z_tuple : B.mg "tuple" = none) : FnOk B.P B.w B.K B.mg B.base (L2.CX B.P B.w) 1 f fd ["parts"] (lift ⟨B.K, T, cls⟩ sp_parameter_numbers) := by
  refine fn_ok (cd := False) (c := c_parameter_numbers) F sc_parameter_numbers k_parameter_numbers ?_ (fun z => z.elim) (fun z => absurd z (by decide +kernel)) w_parameter_numbers ?_
  · simp only [c_parameter_numbers, okS, okE, true_and, and_true, and_assoc]
    repeat' (with_reducible refine And.intro ?_ ?_)
    all_goals first | exact trivial | exact c_isi z_isinstance | exact ⟨z_list, by decide +kernel, by decide +kernel⟩ | exact ⟨z_tuple, by decide +kernel, by decide +kernel⟩
  · intro ds μ Q QX h
    simp only [sp_parameter_numbers] at h
    split at h <;> first | rfl | exact h.elim
theorem ok_parameters {f : Addr} {fd : FuncData} (F : Fun B.K "parameters" "parameters" s_parameters f fd) (z_max : B.mg "max" = none) (h_parameter_numbers : ∀ k, 1 ≤ k → CalC B T cls k "parameter_numbers" sp_parameter_numbers) : FnOk B.P B.w B.K B.mg B.base (L2.CX B.P B.w) 2 f fd ["parts"] (lift ⟨B.K, T, cls⟩ sp_parameters) := by
  refine fn_ok (cd := False) (c := c_parameters) F sc_parameters k_parameters ?_ (fun z => z.elim) (fun z => absurd z (by decide +kernel)) w_parameters ?_
  · simp only [c_parameters, okS, okE, true_and, and_true, and_assoc]
    repeat' (with_reducible refine And.intro ?_ ?_)
    all_goals first | exact trivial | exact n_maxD z_max | exact h_parameter_numbers _ (by decide)
  · intro ds μ Q QX h
    simp only [sp_parameters] at h
    split at h <;> first | rfl | exact h.elim
theorem ok_Portal___init__ {f : Addr} {fd : FuncData} (F : Fun B.K "__init__" "Portal.__init__" s_Portal___init__ f fd) (f_is_done : FdC B cls [10] "is_done") (f_rows : FdC B cls [10] "rows") (f_given : FdC B cls [10] "given") (f_parts : FdC B cls [10] "parts") : FnOk B.P B.w B.K B.mg B.base (L2.CX B.P B.w) 1 f fd ["self", "parts", "values"] (lift ⟨B.K, T, cls⟩ sp_Portal___init__) := by
  refine fn_ok (cd := False) (c := c_Portal___init__) F sc_Portal___init__ k_Portal___init__ ?_ (fun z => z.elim) (fun z => absurd z (by decide +kernel)) w_Portal___init__ ?_
  · simp only [c_Portal___init__, okS, okE, true_and, and_true, and_assoc]
    repeat' (with_reducible refine And.intro ?_ ?_)
    all_goals first | exact trivial | exact n_fld f_is_done | exact n_set f_is_done | exact n_fld f_rows | exact n_set f_rows | exact n_fld f_given | exact n_set f_given | exact n_fld f_parts | exact n_set f_parts
  · intro ds μ Q QX h
    simp only [sp_Portal___init__] at h
    split at h <;> first | rfl | exact h.elim
theorem ok_Session__bind {f : Addr} {fd : FuncData} (F : Fun B.K "_bind" "Session._bind" s_Session__bind f fd) (f__portals : FdC B cls [11] "_portals") (z_len : B.mg "len" = none) (y_MOST_PORTALS : ∃ t, B.mg "MOST_PORTALS" = some (.int 8 t)) (f__statements : FdC B cls [11] "_statements") (n_Portal_2 : ∀ k, 2 ≤ k → NwC B T cls k "Portal" 10 sp_Portal___init__) (h_parameters : ∀ k, 2 ≤ k → CalC B T cls k "parameters" sp_parameters) : FnOk B.P B.w B.K B.mg B.base (L2.CX B.P B.w) 3 f fd ["self", "portal", "name", "values"] (lift ⟨B.K, T, cls⟩ sp_Session__bind) := by
  refine fn_ok (cd := False) (c := c_Session__bind) F sc_Session__bind k_Session__bind ?_ (fun z => z.elim) (fun z => absurd z (by decide +kernel)) w_Session__bind ?_
  · simp only [c_Session__bind, r1_Session__bind, r2_Session__bind, r3_Session__bind, r4_Session__bind, r5_Session__bind, okS, okE, true_and, and_true, and_assoc]
    repeat' (with_reducible refine And.intro ?_ ?_)
    all_goals first | exact trivial | exact n_fld f__portals | exact n_set f__portals | exact c_lenD z_len | exact (let ⟨t, e⟩ := y_MOST_PORTALS; ⟨_, .int 8, e, ⟨t, rfl⟩, fun _ => rfl⟩) | exact n_fld f__statements | exact n_set f__statements | exact c_len z_len | exact n_new (n_Portal_2 _ (by decide)) | exact h_parameters _ (by decide)
  · intro ds μ Q QX h
    simp only [sp_Session__bind] at h
    split at h <;> first | rfl | exact h.elim
theorem ok_number_of {f : Addr} {fd : FuncData} (F : Fun B.K "number_of" "number_of" s_number_of f fd) (hl : ∀ cdv, PySem.W.codeIn B.K cdv "number_of" = true → (∃ oc od kV doc pm an ct osl, B.K.lookup f = some ⟨oc, od, .func (PySem.W.fnOf "number_of" "number_of" (defArgs s_number_of) (defBody s_number_of) (defScope s_number_of) .none kV doc pm an cdv ct), osl⟩) → ∃ c P, cdv = .ref c ∧ GxR.TabB B.base B.mg c P ∧ P ∈ T) (y_LEAST : ∃ t, B.mg "LEAST" = some (.int (-2147483648) t)) (y_GREATEST : ∃ t, B.mg "GREATEST" = some (.int 2147483647 t)) (z_int : B.mg "int" = none) (z_all : B.mg "all" = none) (y_DIGITS : ∃ t, B.mg "DIGITS" = some (.str "0123456789" t)) (z_len : B.mg "len" = none) : FnOk B.P B.w B.K B.mg B.base (L2.CX B.P B.w) 1 f fd ["part"] (lift ⟨B.K, T, cls⟩ sp_number_of) := by
  refine fn_ok (cd := True) (c := c_number_of) F sc_number_of k_number_of ?_ (fun _ => hl) (fun z => absurd z (by decide +kernel)) w_number_of ?_
  · simp only [c_number_of, okS, okE, true_and, and_true, and_assoc]
    repeat' (with_reducible refine And.intro ?_ ?_)
    all_goals first | exact trivial | exact (let ⟨t, e⟩ := y_LEAST; ⟨_, .int (-2147483648), e, ⟨t, rfl⟩, fun _ => rfl⟩) | exact (let ⟨t, e⟩ := y_GREATEST; ⟨_, .int 2147483647, e, ⟨t, rfl⟩, fun _ => rfl⟩) | exact c_int z_int | exact n_allS trivial z_all y_DIGITS | exact c_len z_len
  · intro ds μ Q QX h
    simp only [sp_number_of] at h
    split at h <;> first | rfl | exact h.elim
theorem ok_is_string {f : Addr} {fd : FuncData} (F : Fun B.K "is_string" "is_string" s_is_string f fd) (hl : ∀ cdv, PySem.W.codeIn B.K cdv "is_string" = true → (∃ oc od kV doc pm an ct osl, B.K.lookup f = some ⟨oc, od, .func (PySem.W.fnOf "is_string" "is_string" (defArgs s_is_string) (defBody s_is_string) (defScope s_is_string) .none kV doc pm an cdv ct), osl⟩) → ∃ c P, cdv = .ref c ∧ GxR.TabB B.base B.mg c P ∧ P ∈ T) (z_all : B.mg "all" = none) (y_SIGNS : ∃ t, B.mg "SIGNS" = some (.str " !\"#$&'()*+,-./0123456789:;<=>?@ABCDEFGHIJKLMNOPQRSTUVWXYZ[\\]^_`abcdefghijklmnopqrstuvwxyz{|}~" t)) (z_len : B.mg "len" = none) (y_LONGEST_STRING : ∃ t, B.mg "LONGEST_STRING" = some (.int 200 t)) (z_isinstance : B.mg "isinstance" = none) (z_str : B.mg "str" = none) : FnOk B.P B.w B.K B.mg B.base (L2.CX B.P B.w) 1 f fd ["value"] (lift ⟨B.K, T, cls⟩ sp_is_string) := by
  refine fn_ok (cd := True) (c := c_is_string) F sc_is_string k_is_string ?_ (fun _ => hl) (fun z => absurd z (by decide +kernel)) w_is_string ?_
  · simp only [c_is_string, okS, okE, true_and, and_true, and_assoc]
    repeat' (with_reducible refine And.intro ?_ ?_)
    all_goals first | exact trivial | exact n_allS trivial z_all y_SIGNS | exact c_len z_len | exact (let ⟨t, e⟩ := y_LONGEST_STRING; ⟨_, .int 200, e, ⟨t, rfl⟩, fun _ => rfl⟩) | exact c_isi z_isinstance | exact ⟨z_str, by decide +kernel, by decide +kernel⟩
  · intro ds μ Q QX h
    simp only [sp_is_string, spB] at h
    split at h <;> first | rfl | exact h.elim
theorem ok_is_text {f : Addr} {fd : FuncData} (F : Fun B.K "is_text" "is_text" s_is_text f fd) (z_len : B.mg "len" = none) (y_LONGEST_TEXT : ∃ t, B.mg "LONGEST_TEXT" = some (.int 40 t)) (h_is_string : ∀ k, 1 ≤ k → CalC B T cls k "is_string" sp_is_string) : FnOk B.P B.w B.K B.mg B.base (L2.CX B.P B.w) 2 f fd ["value"] (lift ⟨B.K, T, cls⟩ sp_is_text) := by
  refine fn_ok (cd := False) (c := c_is_text) F sc_is_text k_is_text ?_ (fun z => z.elim) (fun z => absurd z (by decide +kernel)) w_is_text ?_
  · simp only [c_is_text, okS, okE, true_and, and_true, and_assoc]
    repeat' (with_reducible refine And.intro ?_ ?_)
    all_goals first | exact trivial | exact c_len z_len | exact (let ⟨t, e⟩ := y_LONGEST_TEXT; ⟨_, .int 40, e, ⟨t, rfl⟩, fun _ => rfl⟩) | exact h_is_string _ (by decide)
  · intro ds μ Q QX h
    simp only [sp_is_text, spB] at h
    split at h <;> first | rfl | exact h.elim
theorem ok_term_of {f : Addr} {fd : FuncData} (F : Fun B.K "term_of" "term_of" s_term_of f fd) (z_int : B.mg "int" = none) (y_DIGITS : ∃ t, B.mg "DIGITS" = some (.str "0123456789" t)) (y_MOST_PARAMETERS : ∃ t, B.mg "MOST_PARAMETERS" = some (.int 4 t)) (z_len : B.mg "len" = none) (h_number_of : ∀ k, 1 ≤ k → CalC B T cls k "number_of" sp_number_of) (h_is_text : ∀ k, 2 ≤ k → CalC B T cls k "is_text" sp_is_text) : FnOk B.P B.w B.K B.mg B.base (L2.CX B.P B.w) 3 f fd ["part"] (lift ⟨B.K, T, cls⟩ sp_term_of) := by
  refine fn_ok (cd := False) (c := c_term_of) F sc_term_of k_term_of ?_ (fun z => z.elim) (fun z => absurd z (by decide +kernel)) w_term_of ?_
  · simp only [c_term_of, okS, okE, true_and, and_true, and_assoc]
    repeat' (with_reducible refine And.intro ?_ ?_)
    all_goals first | exact trivial | exact c_int z_int | exact (let ⟨t, e⟩ := y_DIGITS; ⟨_, .str "0123456789", e, ⟨t, rfl⟩, fun _ => rfl⟩) | exact (let ⟨t, e⟩ := y_MOST_PARAMETERS; ⟨_, .int 4, e, ⟨t, rfl⟩, fun _ => rfl⟩) | exact c_len z_len | exact h_number_of _ (by decide) | exact h_is_text _ (by decide)
  · intro ds μ Q QX h
    simp only [sp_term_of] at h
    split at h <;> first | rfl | exact h.elim
theorem ok_is_name {f : Addr} {fd : FuncData} (F : Fun B.K "is_name" "is_name" s_is_name f fd) (hl : ∀ cdv, PySem.W.codeIn B.K cdv "is_name" = true → (∃ oc od kV doc pm an ct osl, B.K.lookup f = some ⟨oc, od, .func (PySem.W.fnOf "is_name" "is_name" (defArgs s_is_name) (defBody s_is_name) (defScope s_is_name) .none kV doc pm an cdv ct), osl⟩) → ∃ c P, cdv = .ref c ∧ GxR.TabB B.base B.mg c P ∧ P ∈ T) (z_all : B.mg "all" = none) (y_LETTERS : ∃ t, B.mg "LETTERS" = some (.str "abcdefghijklmnopqrstuvwxyz" t)) (z_len : B.mg "len" = none) (y_LONGEST_NAME : ∃ t, B.mg "LONGEST_NAME" = some (.int 8 t)) (z_isinstance : B.mg "isinstance" = none) (z_str : B.mg "str" = none) : FnOk B.P B.w B.K B.mg B.base (L2.CX B.P B.w) 1 f fd ["value"] (lift ⟨B.K, T, cls⟩ sp_is_name) := by
  refine fn_ok (cd := True) (c := c_is_name) F sc_is_name k_is_name ?_ (fun _ => hl) (fun z => absurd z (by decide +kernel)) w_is_name ?_
  · simp only [c_is_name, okS, okE, true_and, and_true, and_assoc]
    repeat' (with_reducible refine And.intro ?_ ?_)
    all_goals first | exact trivial | exact n_allS trivial z_all y_LETTERS | exact c_len z_len | exact (let ⟨t, e⟩ := y_LONGEST_NAME; ⟨_, .int 8, e, ⟨t, rfl⟩, fun _ => rfl⟩) | exact c_isi z_isinstance | exact ⟨z_str, by decide +kernel, by decide +kernel⟩
  · intro ds μ Q QX h
    simp only [sp_is_name, spB] at h
    split at h <;> first | rfl | exact h.elim
theorem ok_first_part {f : Addr} {fd : FuncData} (F : Fun B.K "first_part" "first_part" s_first_part f fd)  : FnOk B.P B.w B.K B.mg B.base (L2.CX B.P B.w) 1 f fd ["string"] (lift ⟨B.K, T, cls⟩ sp_first_part) := by
  refine fn_ok (cd := False) (c := c_first_part) F sc_first_part k_first_part ?_ (fun z => z.elim) (fun z => absurd z (by decide +kernel)) w_first_part ?_
  · simp only [c_first_part, okS, okE, true_and, and_true, and_assoc]
    repeat' (with_reducible refine And.intro ?_ ?_)
    all_goals first | exact trivial | exact m_find | exact m_split
  · intro ds μ Q QX h
    simp only [sp_first_part] at h
    split at h <;> first | rfl | exact h.elim
theorem ok_parts_of {f : Addr} {fd : FuncData} (F : Fun B.K "parts_of" "parts_of" s_parts_of f fd) (z_len : B.mg "len" = none) (h_first_part : ∀ k, 1 ≤ k → CalC B T cls k "first_part" sp_first_part) : FnOk B.P B.w B.K B.mg B.base (L2.CX B.P B.w) 2 f fd ["string"] (lift ⟨B.K, T, cls⟩ sp_parts_of) := by
  refine fn_ok (cd := False) (c := c_parts_of) F sc_parts_of k_parts_of ?_ (fun z => z.elim) (fun z => absurd z (by decide +kernel)) w_parts_of ?_
  · simp only [c_parts_of, t1_parts_of, b1_parts_of, okS, okE, true_and, and_true, and_assoc]
    repeat' (with_reducible refine And.intro ?_ ?_)
    all_goals first | exact trivial | exact c_len z_len | exact m_app | exact h_first_part _ (by decide)
  · intro ds μ Q QX h
    simp only [sp_parts_of] at h
    split at h <;> first | rfl | exact h.elim
theorem ok_read_statement {f : Addr} {fd : FuncData} (F : Fun B.K "read_statement" "read_statement" s_read_statement f fd) (hl : ∀ cdv, PySem.W.codeIn B.K cdv "read_statement" = true → (∃ oc od kV doc pm an ct osl, B.K.lookup f = some ⟨oc, od, .func (PySem.W.fnOf "read_statement" "read_statement" (defArgs s_read_statement) (defBody s_read_statement) (defScope s_read_statement) .none kV doc pm an cdv ct), osl⟩) → ∃ c P, cdv = .ref c ∧ GxR.TabB B.base B.mg c P ∧ P ∈ T) (z_range : B.mg "range" = none) (z_all : B.mg "all" = none) (z_tuple : B.mg "tuple" = none) (z_len : B.mg "len" = none) (g_FORMS : GdC B "FORMS" tbl_FORMS) (h_parameters : ∀ k, 2 ≤ k → CalC B T cls k "parameters" sp_parameters) (h_parameter_numbers : ∀ k, 1 ≤ k → CalC B T cls k "parameter_numbers" sp_parameter_numbers) (h_term_of : ∀ k, 3 ≤ k → CalC B T cls k "term_of" sp_term_of) (h_is_name : ∀ k, 1 ≤ k → CalC B T cls k "is_name" sp_is_name) (h_is_string : ∀ k, 1 ≤ k → CalC B T cls k "is_string" sp_is_string) (h_parts_of : ∀ k, 2 ≤ k → CalC B T cls k "parts_of" sp_parts_of) : FnOk B.P B.w B.K B.mg B.base (L2.CX B.P B.w) 4 f fd ["string"] (lift ⟨B.K, T, cls⟩ sp_read_statement) := by
  refine fn_ok (cd := True) (c := c_read_statement) F sc_read_statement k_read_statement ?_ (fun _ => hl) (fun z => absurd z (by decide +kernel)) w_read_statement ?_
  · simp only [c_read_statement, okS, okE, true_and, and_true, and_assoc]
    repeat' (with_reducible refine And.intro ?_ ?_)
    all_goals first | exact trivial | exact n_allN trivial z_all z_range | exact c_tup z_tuple | exact c_len z_len | exact n_gin g_FORMS | exact n_ginT g_FORMS | exact n_gix g_FORMS | exact h_parameters _ (by decide) | exact h_parameter_numbers _ (by decide) | exact h_term_of _ (by decide) | exact h_is_name _ (by decide) | exact h_is_string _ (by decide) | exact h_parts_of _ (by decide)
  · intro ds μ Q QX h
    simp only [sp_read_statement] at h
    split at h <;> first | rfl | exact h.elim
theorem ok_Session__prepare {f : Addr} {fd : FuncData} (F : Fun B.K "_prepare" "Session._prepare" s_Session__prepare f fd) (f__statements : FdC B cls [11] "_statements") (z_len : B.mg "len" = none) (y_MOST_STATEMENTS : ∃ t, B.mg "MOST_STATEMENTS" = some (.int 8 t)) (h_parameters : ∀ k, 2 ≤ k → CalC B T cls k "parameters" sp_parameters) (h_read_statement : ∀ k, 4 ≤ k → CalC B T cls k "read_statement" sp_read_statement) : FnOk B.P B.w B.K B.mg B.base (L2.CX B.P B.w) 5 f fd ["self", "name", "string"] (lift ⟨B.K, T, cls⟩ sp_Session__prepare) := by
  refine fn_ok (cd := False) (c := c_Session__prepare) F sc_Session__prepare k_Session__prepare ?_ (fun z => z.elim) (fun z => absurd z (by decide +kernel)) w_Session__prepare ?_
  · simp only [c_Session__prepare, okS, okE, true_and, and_true, and_assoc]
    repeat' (with_reducible refine And.intro ?_ ?_)
    all_goals first | exact trivial | exact n_fld f__statements | exact n_set f__statements | exact c_lenD z_len | exact (let ⟨t, e⟩ := y_MOST_STATEMENTS; ⟨_, .int 8, e, ⟨t, rfl⟩, fun _ => rfl⟩) | exact h_parameters _ (by decide) | exact h_read_statement _ (by decide)
  · intro ds μ Q QX h
    simp only [sp_Session__prepare] at h
    split at h <;> first | rfl | exact h.elim
theorem ok_Session__run_command {f : Addr} {fd : FuncData} (F : Fun B.K "_run_command" "Session._run_command" s_Session__run_command f fd) (f__statements : FdC B cls [11] "_statements") (f__portals : FdC B cls [11] "_portals") (z_tuple : B.mg "tuple" = none) (h_Session__run : ∀ k, 8 ≤ k → MeC B T cls k 11 "_run" sp_Session__run) (h_Session__bind : ∀ k, 3 ≤ k → MeC B T cls k 11 "_bind" sp_Session__bind) (h_Session__prepare : ∀ k, 5 ≤ k → MeC B T cls k 11 "_prepare" sp_Session__prepare) : FnOk B.P B.w B.K B.mg B.base (L2.CX B.P B.w) 9 f fd ["self", "command"] (lift ⟨B.K, T, cls⟩ sp_Session__run_command) := by
  refine fn_ok (cd := False) (c := c_Session__run_command) F sc_Session__run_command k_Session__run_command ?_ (fun z => z.elim) (fun z => absurd z (by decide +kernel)) w_Session__run_command ?_
  · simp only [c_Session__run_command, okS, okE, true_and, and_true, and_assoc]
    repeat' (with_reducible refine And.intro ?_ ?_)
    all_goals first | exact trivial | exact m_dpop | exact n_fld f__statements | exact n_set f__statements | exact n_fld f__portals | exact n_set f__portals | exact one_met (h_Session__run _ (by decide)) | exact one_met (h_Session__bind _ (by decide)) | exact c_tup z_tuple | exact one_met (h_Session__prepare _ (by decide))
  · intro ds μ Q QX h
    simp only [sp_Session__run_command] at h
    split at h <;> first | rfl | exact h.elim
theorem ok_Session__reply {f : Addr} {fd : FuncData} (F : Fun B.K "_reply" "Session._reply" s_Session__reply f fd) (f__state : FdC B cls [11] "_state") (f__portals : FdC B cls [11] "_portals") (f__store : FdC B cls [11] "_store") (z_dict : B.mg "dict" = none) (f__base : FdC B cls [11] "_base") (h_Session__run_command : ∀ k, 9 ≤ k → MeC B T cls k 11 "_run_command" sp_Session__run_command) : FnOk B.P B.w B.K B.mg B.base (L2.CX B.P B.w) 10 f fd ["self", "command"] (lift ⟨B.K, T, cls⟩ sp_Session__reply) := by
  refine fn_ok (cd := False) (c := c_Session__reply) F sc_Session__reply k_Session__reply ?_ (fun z => z.elim) (fun z => absurd z (by decide +kernel)) w_Session__reply ?_
  · simp only [c_Session__reply, r1_Session__reply, r2_Session__reply, okS, okE, true_and, and_true, and_assoc]
    repeat' (with_reducible refine And.intro ?_ ?_)
    all_goals first | exact trivial | exact one_met (h_Session__run_command _ (by decide)) | exact n_fld f__state | exact n_set f__state | exact n_fld f__portals | exact n_set f__portals | exact n_fld f__store | exact n_set f__store | exact c_dct z_dict | exact n_fld f__base | exact n_set f__base | exact n_dnil
  · intro ds μ Q QX h
    simp only [sp_Session__reply] at h
    split at h <;> first | rfl | exact h.elim
theorem ok_Session_run_batch {f : Addr} {fd : FuncData} (F : Fun B.K "run_batch" "Session.run_batch" s_Session_run_batch f fd) (f__state : FdC B cls [11] "_state") (f__portals : FdC B cls [11] "_portals") (f__base : FdC B cls [11] "_base") (z_dict : B.mg "dict" = none) (f__store : FdC B cls [11] "_store") (h_Session__reply : ∀ k, 10 ≤ k → MeC B T cls k 11 "_reply" sp_Session__reply) : FnOk B.P B.w B.K B.mg B.base (L2.CX B.P B.w) 11 f fd ["self", "commands"] (lift ⟨B.K, T, cls⟩ sp_Session_run_batch) := by
  refine fn_ok (cd := False) (c := c_Session_run_batch) F sc_Session_run_batch k_Session_run_batch ?_ (fun z => z.elim) (fun z => absurd z (by decide +kernel)) w_Session_run_batch ?_
  · simp only [c_Session_run_batch, b1_Session_run_batch, r1_Session_run_batch, r2_Session_run_batch, r3_Session_run_batch, okS, okE, true_and, and_true, and_assoc]
    repeat' (with_reducible refine And.intro ?_ ?_)
    all_goals first | exact trivial | exact m_app | exact one_met (h_Session__reply _ (by decide)) | exact n_fld f__state | exact n_set f__state | exact n_fld f__portals | exact n_set f__portals | exact n_fld f__base | exact n_set f__base | exact c_dct z_dict | exact n_fld f__store | exact n_set f__store | exact n_dnil
  · intro ds μ Q QX h
    simp only [sp_Session_run_batch] at h
    split at h <;> first | rfl | exact h.elim
theorem ok__law_named_hold {f : Addr} {fd : FuncData} (F : Fun B.K "_law_named_hold" "_law_named_hold" s__law_named_hold f fd) (z_int : B.mg "int" = none) (z_range : B.mg "range" = none) (z_min : B.mg "min" = none) (n_Session_0 : ∀ k, 3 ≤ k → NwC B T cls k "Session" 11 (spD sp_Session___init__ [.tup []])) (h_Session_run_batch : ∀ k, 11 ≤ k → MeC B T cls k 11 "run_batch" sp_Session_run_batch) : FnOk B.P B.w B.K B.mg B.base (L2.CX B.P B.w) 12 f fd ["_law_count"] (lift ⟨B.K, T, cls⟩ sp__law_named_hold) := by
  refine fn_ok (cd := False) (c := c__law_named_hold) F sc__law_named_hold k__law_named_hold ?_ (fun z => z.elim) (fun z => absurd z (by decide +kernel)) w__law_named_hold ?_
  · simp only [c__law_named_hold, q1b1__law_named_hold, b1__law_named_hold, r1__law_named_hold, r2__law_named_hold, r3__law_named_hold, r4__law_named_hold, r5__law_named_hold, r6__law_named_hold, r7__law_named_hold, r8__law_named_hold, r9__law_named_hold, okS, okE, true_and, and_true, and_assoc]
    repeat' (with_reducible refine And.intro ?_ ?_)
    all_goals first | exact trivial | exact n_new (n_Session_0 _ (by decide)) | exact one_met (h_Session_run_batch _ (by decide)) | exact c_int z_int | exact z_range | exact c_min2 z_min
  · intro ds μ Q QX h
    simp only [sp__law_named_hold] at h
    split at h <;> first | rfl | exact h.elim
theorem ok__law_cell {f : Addr} {fd : FuncData} (F : Fun B.K "_law_cell" "_law_cell" s__law_cell f fd) (z_len : B.mg "len" = none) : FnOk B.P B.w B.K B.mg B.base (L2.CX B.P B.w) 1 f fd ["_law_script", "_law_k"] (lift ⟨B.K, T, cls⟩ sp__law_cell) := by
  refine fn_ok (cd := False) (c := c__law_cell) F sc__law_cell k__law_cell ?_ (fun z => z.elim) (fun z => absurd z (by decide +kernel)) w__law_cell ?_
  · simp only [c__law_cell, okS, okE, true_and, and_true, and_assoc]
    repeat' (with_reducible refine And.intro ?_ ?_)
    all_goals first | exact trivial | exact c_len z_len
  · intro ds μ Q QX h
    simp only [sp__law_cell] at h
    split at h <;> first | rfl | exact h.elim
theorem ok__law_did7 {f : Addr} {fd : FuncData} (F : Fun B.K "_law_did" "_law_did" s__law_did7 f fd) (h_Session_run_batch : ∀ k, 11 ≤ k → MeC B T cls k 11 "run_batch" sp_Session_run_batch) : FnOk B.P B.w B.K B.mg B.base (L2.CX B.P B.w) 12 f fd ["_law_session", "_law_string", "_law_values"] (lift ⟨B.K, T, cls⟩ sp__law_did7) := by
  refine fn_ok (cd := False) (c := c__law_did7) F sc__law_did7 k__law_did7 ?_ (fun z => z.elim) (fun z => absurd z (by decide +kernel)) w__law_did7 ?_
  · simp only [c__law_did7, okS, okE, true_and, and_true, and_assoc]
    repeat' (with_reducible refine And.intro ?_ ?_)
    all_goals first | exact trivial | exact one_met (h_Session_run_batch _ (by decide))
  · intro ds μ Q QX h
    simp only [sp__law_did7] at h
    split at h <;> first | rfl | exact h.elim
theorem ok_tables_of {f : Addr} {fd : FuncData} (F : Fun B.K "tables_of" "tables_of" s_tables_of f fd) (z_list : B.mg "list" = none) : FnOk B.P B.w B.K B.mg B.base (L2.CX B.P B.w) 1 f fd ["store"] (lift ⟨B.K, T, cls⟩ sp_tables_of) := by
  refine fn_ok (cd := False) (c := c_tables_of) F sc_tables_of k_tables_of ?_ (fun z => z.elim) (fun z => absurd z (by decide +kernel)) w_tables_of ?_
  · simp only [c_tables_of, okS, okE, true_and, and_true, and_assoc]
    repeat' (with_reducible refine And.intro ?_ ?_)
    all_goals first | exact trivial | exact c_lst z_list
  · intro ds μ Q QX h
    simp only [sp_tables_of] at h
    split at h <;> first | rfl | exact h.elim
theorem ok_Session_tables {f : Addr} {fd : FuncData} (F : Fun B.K "tables" "Session.tables" s_Session_tables f fd) (f__store : FdC B cls [11] "_store") (h_tables_of : ∀ k, 1 ≤ k → CalC B T cls k "tables_of" sp_tables_of) : FnOk B.P B.w B.K B.mg B.base (L2.CX B.P B.w) 2 f fd ["self"] (lift ⟨B.K, T, cls⟩ sp_Session_tables) := by
  refine fn_ok (cd := False) (c := c_Session_tables) F sc_Session_tables k_Session_tables ?_ (fun z => z.elim) (fun z => absurd z (by decide +kernel)) w_Session_tables ?_
  · simp only [c_Session_tables, okS, okE, true_and, and_true, and_assoc]
    repeat' (with_reducible refine And.intro ?_ ?_)
    all_goals first | exact trivial | exact n_fld f__store | exact n_set f__store | exact h_tables_of _ (by decide)
  · intro ds μ Q QX h
    simp only [sp_Session_tables] at h
    split at h <;> first | rfl | exact h.elim
theorem ok__law_tables_hold {f : Addr} {fd : FuncData} (F : Fun B.K "_law_tables_hold" "_law_tables_hold" s__law_tables_hold f fd) (z_range : B.mg "range" = none) (n_Session_0 : ∀ k, 3 ≤ k → NwC B T cls k "Session" 11 (spD sp_Session___init__ [.tup []])) (h__law_did7 : ∀ k, 12 ≤ k → CalC B T cls k "_law_did" sp__law_did7) (h_Session_tables : ∀ k, 2 ≤ k → MeC B T cls k 11 "tables" sp_Session_tables) : FnOk B.P B.w B.K B.mg B.base (L2.CX B.P B.w) 13 f fd ["_law_count"] (lift ⟨B.K, T, cls⟩ sp__law_tables_hold) := by
  refine fn_ok (cd := False) (c := c__law_tables_hold) F sc__law_tables_hold k__law_tables_hold ?_ (fun z => z.elim) (fun z => absurd z (by decide +kernel)) w__law_tables_hold ?_
  · simp only [c__law_tables_hold, q2b1__law_tables_hold, q1b1__law_tables_hold, b1__law_tables_hold, r1__law_tables_hold, r2__law_tables_hold, r3__law_tables_hold, okS, okE, true_and, and_true, and_assoc]
    repeat' (with_reducible refine And.intro ?_ ?_)
    all_goals first | exact trivial | exact n_new (n_Session_0 _ (by decide)) | exact z_range | exact one_met (h_Session_tables _ (by decide)) | exact h__law_did7 _ (by decide)
  · intro ds μ Q QX h
    simp only [sp__law_tables_hold] at h
    split at h <;> first | rfl | exact h.elim
theorem ok__law_saves_hold {f : Addr} {fd : FuncData} (F : Fun B.K "_law_saves_hold" "_law_saves_hold" s__law_saves_hold f fd) (z_int : B.mg "int" = none) (z_range : B.mg "range" = none) (n_Session_0 : ∀ k, 3 ≤ k → NwC B T cls k "Session" 11 (spD sp_Session___init__ [.tup []])) (h__law_did7 : ∀ k, 12 ≤ k → CalC B T cls k "_law_did" sp__law_did7) : FnOk B.P B.w B.K B.mg B.base (L2.CX B.P B.w) 13 f fd ["_law_count"] (lift ⟨B.K, T, cls⟩ sp__law_saves_hold) := by
  refine fn_ok (cd := False) (c := c__law_saves_hold) F sc__law_saves_hold k__law_saves_hold ?_ (fun z => z.elim) (fun z => absurd z (by decide +kernel)) w__law_saves_hold ?_
  · simp only [c__law_saves_hold, q2b1__law_saves_hold, q1b1__law_saves_hold, b1__law_saves_hold, r1__law_saves_hold, r2__law_saves_hold, r3__law_saves_hold, okS, okE, true_and, and_true, and_assoc]
    repeat' (with_reducible refine And.intro ?_ ?_)
    all_goals first | exact trivial | exact n_new (n_Session_0 _ (by decide)) | exact c_int z_int | exact z_range | exact h__law_did7 _ (by decide)
  · intro ds μ Q QX h
    simp only [sp__law_saves_hold] at h
    split at h <;> first | rfl | exact h.elim
theorem ok__law_portals_hold {f : Addr} {fd : FuncData} (F : Fun B.K "_law_portals_hold" "_law_portals_hold" s__law_portals_hold f fd) (z_range : B.mg "range" = none) (n_Session_0 : ∀ k, 3 ≤ k → NwC B T cls k "Session" 11 (spD sp_Session___init__ [.tup []])) (h__law_did7 : ∀ k, 12 ≤ k → CalC B T cls k "_law_did" sp__law_did7) (h_Session_run_batch : ∀ k, 11 ≤ k → MeC B T cls k 11 "run_batch" sp_Session_run_batch) : FnOk B.P B.w B.K B.mg B.base (L2.CX B.P B.w) 13 f fd [] (lift ⟨B.K, T, cls⟩ sp__law_portals_hold) := by
  refine fn_ok (cd := False) (c := c__law_portals_hold) F sc__law_portals_hold k__law_portals_hold ?_ (fun z => z.elim) (fun z => absurd z (by decide +kernel)) w__law_portals_hold ?_
  · simp only [c__law_portals_hold, b1__law_portals_hold, r1__law_portals_hold, r2__law_portals_hold, r3__law_portals_hold, r4__law_portals_hold, r5__law_portals_hold, r6__law_portals_hold, r7__law_portals_hold, okS, okE, true_and, and_true, and_assoc]
    repeat' (with_reducible refine And.intro ?_ ?_)
    all_goals first | exact trivial | exact n_new (n_Session_0 _ (by decide)) | exact z_range | exact one_met (h_Session_run_batch _ (by decide)) | exact h__law_did7 _ (by decide)
  · intro ds μ Q QX h
    simp only [sp__law_portals_hold] at h
    split at h <;> first | rfl | exact h.elim
theorem ok_law9 {f : Addr} {fd : FuncData} (F : Fun B.K "law" "law" s_law9 f fd) (z_range : B.mg "range" = none) (z_int : B.mg "int" = none) (n_Session_1 : ∀ k, 3 ≤ k → NwC B T cls k "Session" 11 sp_Session___init__) (h__law_named_hold : ∀ k, 12 ≤ k → CalC B T cls k "_law_named_hold" sp__law_named_hold) (h__law_cell : ∀ k, 1 ≤ k → CalC B T cls k "_law_cell" sp__law_cell) (h__law_tables_hold : ∀ k, 13 ≤ k → CalC B T cls k "_law_tables_hold" sp__law_tables_hold) (h__law_saves_hold : ∀ k, 13 ≤ k → CalC B T cls k "_law_saves_hold" sp__law_saves_hold) (h__law_portals_hold : ∀ k, 13 ≤ k → FnC B T cls k "_law_portals_hold" sp__law_portals_hold) (h__law_did7 : ∀ k, 12 ≤ k → CalC B T cls k "_law_did" sp__law_did7) (h_Session_tables : ∀ k, 2 ≤ k → MeC B T cls k 11 "tables" sp_Session_tables) : FnOk B.P B.w B.K B.mg B.base (L2.CX B.P B.w) 14 f fd ["_law_script"] (lift ⟨B.K, T, cls⟩ sp_law9) := by
  refine fn_ok (cd := False) (c := c_law9) F sc_law9 k_law9 ?_ (fun z => z.elim) (fun z => absurd z (by decide +kernel)) w_law9 ?_
  · simp only [c_law9, r1_law9, r2_law9, r3_law9, r4_law9, r5_law9, r6_law9, okS, okE, true_and, and_true, and_assoc]
    repeat' (with_reducible refine And.intro ?_ ?_)
    all_goals first | exact trivial | exact n_new (n_Session_1 _ (by decide)) | exact z_range | exact one_met (h_Session_tables _ (by decide)) | exact c_int z_int | exact h__law_named_hold _ (by decide) | exact h__law_cell _ (by decide) | exact h__law_tables_hold _ (by decide) | exact h__law_saves_hold _ (by decide) | exact n_cal0 (h__law_portals_hold _ (by decide)) | exact h__law_did7 _ (by decide)
  · intro ds μ Q QX h
    simp only [sp_law9] at h
    split at h <;> first | rfl | exact h.elim
end
theorem facts {P : Program} {w : World} {K : PySem.W.Frag} {cs ls : List (Addr × Addr)} {h : Heap} {mg : Str → Option Value} {fa : Addr} (S : SaysM faL fnL tsL usL cxL lmL emL w K cs ls h) (G : h.Ns mainGlobals mg) (hfa : mg ("law" : Str) = some (.ref fa)) :
    ∃ fd : FuncData, (∀ (s : Shared) (u : Value), BindsTo s fd ⟨[u], []⟩ [("_law_script", u)]) ∧ ∃ p0 : Addr, (p0 ≠ 0 → p0 ∉ cs.map (·.2) ∧ ∃ q ∈ ls, q.2 = p0) ∧ ∀ base : Heap, K.In base → base.Ns mainGlobals mg → (∀ p ∈ cs ++ ls, LamX.TabB base mg p.1 p.2) → FnOk P w K mg base (L2.CX P w) 14 fa fd ["_law_script"] (lift ⟨K, cs.map (·.2), clsL K p0⟩ sp_law9) := by
  have X := S.kin
  obtain ⟨fd_store_of, D_store_of⟩ := S.says.d.def_ 0 (d := d_store_of) rfl
  obtain ⟨fd_Session___init__, D_Session___init__⟩ := S.says.d.def_ 1 (d := d_Session___init__) rfl
  obtain ⟨fd_Session__end, D_Session__end⟩ := S.says.d.def_ 2 (d := d_Session__end) rfl
  obtain ⟨fd_Session__undo, D_Session__undo⟩ := S.says.d.def_ 3 (d := d_Session__undo) rfl
  obtain ⟨fd_Session__save, D_Session__save⟩ := S.says.d.def_ 4 (d := d_Session__save) rfl
  obtain ⟨fd_Session__begin, D_Session__begin⟩ := S.says.d.def_ 5 (d := d_Session__begin) rfl
  obtain ⟨fd_rank, D_rank⟩ := S.says.d.def_ 6 (d := d_rank) rfl
  obtain ⟨fd_found, D_found⟩ := S.says.d.def_ 7 (d := d_found) rfl
  obtain ⟨fd_without, D_without⟩ := S.says.d.def_ 8 (d := d_without) rfl
  obtain ⟨fd_delete, D_delete⟩ := S.says.d.def_ 9 (d := d_delete) rfl
  obtain ⟨fd_put, D_put⟩ := S.says.d.def_ 10 (d := d_put) rfl
  obtain ⟨fd_create, D_create⟩ := S.says.d.def_ 11 (d := d_create) rfl
  obtain ⟨fd_do, D_do⟩ := S.says.d.def_ 12 (d := d_do) rfl
  obtain ⟨fd_Session__do, D_Session__do⟩ := S.says.d.def_ 13 (d := d_Session__do) rfl
  obtain ⟨fd_filled, D_filled⟩ := S.says.d.def_ 14 (d := d_filled) rfl
  obtain ⟨fd_Session__run, D_Session__run⟩ := S.says.d.def_ 15 (d := d_Session__run) rfl
  obtain ⟨fd_parameter_numbers, D_parameter_numbers⟩ := S.says.d.def_ 16 (d := d_parameter_numbers) rfl
  obtain ⟨fd_parameters, D_parameters⟩ := S.says.d.def_ 17 (d := d_parameters) rfl
  obtain ⟨fd_Portal___init__, D_Portal___init__⟩ := S.says.d.def_ 18 (d := d_Portal___init__) rfl
  obtain ⟨fd_Session__bind, D_Session__bind⟩ := S.says.d.def_ 19 (d := d_Session__bind) rfl
  obtain ⟨fd_number_of, D_number_of⟩ := S.says.d.def_ 20 (d := d_number_of) rfl
  obtain ⟨fd_is_string, D_is_string⟩ := S.says.d.def_ 21 (d := d_is_string) rfl
  obtain ⟨fd_is_text, D_is_text⟩ := S.says.d.def_ 22 (d := d_is_text) rfl
  obtain ⟨fd_term_of, D_term_of⟩ := S.says.d.def_ 23 (d := d_term_of) rfl
  obtain ⟨fd_is_name, D_is_name⟩ := S.says.d.def_ 24 (d := d_is_name) rfl
  obtain ⟨fd_first_part, D_first_part⟩ := S.says.d.def_ 25 (d := d_first_part) rfl
  obtain ⟨fd_parts_of, D_parts_of⟩ := S.says.d.def_ 26 (d := d_parts_of) rfl
  obtain ⟨fd_read_statement, D_read_statement⟩ := S.says.d.def_ 27 (d := d_read_statement) rfl
  obtain ⟨fd_Session__prepare, D_Session__prepare⟩ := S.says.d.def_ 28 (d := d_Session__prepare) rfl
  obtain ⟨fd_Session__run_command, D_Session__run_command⟩ := S.says.d.def_ 29 (d := d_Session__run_command) rfl
  obtain ⟨fd_Session__reply, D_Session__reply⟩ := S.says.d.def_ 30 (d := d_Session__reply) rfl
  obtain ⟨fd_Session_run_batch, D_Session_run_batch⟩ := S.says.d.def_ 31 (d := d_Session_run_batch) rfl
  obtain ⟨fd__law_named_hold, D__law_named_hold⟩ := S.says.d.def_ 32 (d := d__law_named_hold) rfl
  obtain ⟨fd__law_cell, D__law_cell⟩ := S.says.d.def_ 33 (d := d__law_cell) rfl
  obtain ⟨fd__law_did7, D__law_did7⟩ := S.says.d.def_ 34 (d := d__law_did7) rfl
  obtain ⟨fd_tables_of, D_tables_of⟩ := S.says.d.def_ 35 (d := d_tables_of) rfl
  obtain ⟨fd_Session_tables, D_Session_tables⟩ := S.says.d.def_ 36 (d := d_Session_tables) rfl
  obtain ⟨fd__law_tables_hold, D__law_tables_hold⟩ := S.says.d.def_ 37 (d := d__law_tables_hold) rfl
  obtain ⟨fd__law_saves_hold, D__law_saves_hold⟩ := S.says.d.def_ 38 (d := d__law_saves_hold) rfl
  obtain ⟨fd__law_portals_hold, D__law_portals_hold⟩ := S.says.d.def_ 39 (d := d__law_portals_hold) rfl
  obtain ⟨fd_law9, D_law9⟩ := S.says.d.def_ 40 (d := d_law9) rfl
  have e := hfa.symm.trans (He.glo_ok X G (S.fact 84 (f := .glo "law") rfl))
  cases e
  obtain ⟨p0, hp0, lk0, sep0, nz0⟩ := S.linkL "put" (by decide +kernel)
  refine ⟨fd_law9, fun s u => FunD.bindsA (ps := ["_law_script"]) D_law9 (fun _ _ _ _ _ _ us hl => match us, hl with | [_], _ => rfl) s [u] rfl, p0.2, fun _ => ⟨fun z => by obtain ⟨r, hr, e⟩ := List.mem_map.mp z; exact sep0 r hr e, p0, hp0, rfl⟩, fun base hK hN hT => ?_⟩
  let B : Bs := ⟨P, w, K, mg, base⟩
  have z1000 : clsL K p0.2 1000 ≠ 0 := nz0
  have m_store_of : B.mg "store_of" = some (.ref (He.ga K "store_of")) := He.glo_ok X G (S.fact 0 (f := .glo "store_of") rfl)
  have z_tuple : B.mg "tuple" = none := He.free_ok X G (S.fact 1 (f := .free "tuple") rfl)
  have m_Session : B.mg "Session" = some (.ref (He.ga K "Session")) := He.glo_ok X G (S.fact 2 (f := .glo "Session") rfl)
  have c_Session_ : Cls B.K (clsL K p0.2 11) := He.cls_ok (S.fact 3 (f := .cls "Session") rfl)
  have mk_Session := He.mkr_ok (S.fact 4 (f := .mkr "Session") rfl)
  have a_Session__store : NoAttr B.K (clsL K p0.2 11) "_store" := He.noat_ok (S.fact 5 (f := .noat "Session" "_store") rfl)
  have a_Session__base : NoAttr B.K (clsL K p0.2 11) "_base" := He.noat_ok (S.fact 6 (f := .noat "Session" "_base") rfl)
  have z_dict : B.mg "dict" = none := He.free_ok X G (S.fact 7 (f := .free "dict") rfl)
  have a_Session__state : NoAttr B.K (clsL K p0.2 11) "_state" := He.noat_ok (S.fact 8 (f := .noat "Session" "_state") rfl)
  have a_Session__savepoints : NoAttr B.K (clsL K p0.2 11) "_savepoints" := He.noat_ok (S.fact 9 (f := .noat "Session" "_savepoints") rfl)
  have a_Session__statements : NoAttr B.K (clsL K p0.2 11) "_statements" := He.noat_ok (S.fact 10 (f := .noat "Session" "_statements") rfl)
  have a_Session__portals : NoAttr B.K (clsL K p0.2 11) "_portals" := He.noat_ok (S.fact 11 (f := .noat "Session" "_portals") rfl)
  have mm_Session__end := He.meth_ok (S.fact 12 (f := .meth "Session" "_end") rfl)
  have mm_Session__undo := He.meth_ok (S.fact 13 (f := .meth "Session" "_undo") rfl)
  have z_enumerate : B.mg "enumerate" = none := He.free_ok X G (S.fact 14 (f := .free "enumerate") rfl)
  have mm_Session__save := He.meth_ok (S.fact 15 (f := .meth "Session" "_save") rfl)
  have z_len : B.mg "len" = none := He.free_ok X G (S.fact 16 (f := .free "len") rfl)
  have y_MOST_SAVEPOINTS := He.int_ok X G (S.fact 17 (f := .int "MOST_SAVEPOINTS" 10) rfl)
  have mm_Session__begin := He.meth_ok (S.fact 18 (f := .meth "Session" "_begin") rfl)
  have m_rank : B.mg "rank" = some (.ref (He.ga K "rank")) := He.glo_ok X G (S.fact 19 (f := .glo "rank") rfl)
  have z_isinstance : B.mg "isinstance" = none := He.free_ok X G (S.fact 20 (f := .free "isinstance") rfl)
  have z_str : B.mg "str" = none := He.free_ok X G (S.fact 21 (f := .free "str") rfl)
  have m_found : B.mg "found" = some (.ref (He.ga K "found")) := He.glo_ok X G (S.fact 22 (f := .glo "found") rfl)
  have z_list : B.mg "list" = none := He.free_ok X G (S.fact 23 (f := .free "list") rfl)
  have m_without : B.mg "without" = some (.ref (He.ga K "without")) := He.glo_ok X G (S.fact 24 (f := .glo "without") rfl)
  have m_delete : B.mg "delete" = some (.ref (He.ga K "delete")) := He.glo_ok X G (S.fact 25 (f := .glo "delete") rfl)
  have m_put : B.mg "put" = some (.ref (He.ga K "put")) := He.glo_ok X G (S.fact 26 (f := .glo "put") rfl)
  have z_sorted : B.mg "sorted" = none := He.free_ok X G (S.fact 27 (f := .free "sorted") rfl)
  have y_MOST_ROWS := He.int_ok X G (S.fact 28 (f := .int "MOST_ROWS" 20) rfl)
  have m_create : B.mg "create" = some (.ref (He.ga K "create")) := He.glo_ok X G (S.fact 29 (f := .glo "create") rfl)
  have y_MOST_TABLES := He.int_ok X G (S.fact 30 (f := .int "MOST_TABLES" 4) rfl)
  have m_do : B.mg "do" = some (.ref (He.ga K "do")) := He.glo_ok X G (S.fact 31 (f := .glo "do") rfl)
  have mm_Session__do := He.meth_ok (S.fact 32 (f := .meth "Session" "_do") rfl)
  have m_TRANSACTIONS : B.mg "TRANSACTIONS" = some (.ref (He.ga K "TRANSACTIONS")) := He.glo_ok X G (S.fact 33 (f := .glo "TRANSACTIONS") rfl)
  have m_filled : B.mg "filled" = some (.ref (He.ga K "filled")) := He.glo_ok X G (S.fact 34 (f := .glo "filled") rfl)
  have mm_Session__run := He.meth_ok (S.fact 35 (f := .meth "Session" "_run") rfl)
  have m_Portal : B.mg "Portal" = some (.ref (He.ga K "Portal")) := He.glo_ok X G (S.fact 36 (f := .glo "Portal") rfl)
  have c_Portal_ : Cls B.K (clsL K p0.2 10) := He.cls_ok (S.fact 37 (f := .cls "Portal") rfl)
  have a_Portal_parts : NoAttr B.K (clsL K p0.2 10) "parts" := He.noat_ok (S.fact 38 (f := .noat "Portal" "parts") rfl)
  have m_ENDINGS : B.mg "ENDINGS" = some (.ref (He.ga K "ENDINGS")) := He.glo_ok X G (S.fact 39 (f := .glo "ENDINGS") rfl)
  have a_Portal_is_done : NoAttr B.K (clsL K p0.2 10) "is_done" := He.noat_ok (S.fact 40 (f := .noat "Portal" "is_done") rfl)
  have a_Portal_rows : NoAttr B.K (clsL K p0.2 10) "rows" := He.noat_ok (S.fact 41 (f := .noat "Portal" "rows") rfl)
  have a_Portal_given : NoAttr B.K (clsL K p0.2 10) "given" := He.noat_ok (S.fact 42 (f := .noat "Portal" "given") rfl)
  have m_parameter_numbers : B.mg "parameter_numbers" = some (.ref (He.ga K "parameter_numbers")) := He.glo_ok X G (S.fact 43 (f := .glo "parameter_numbers") rfl)
  have m_parameters : B.mg "parameters" = some (.ref (He.ga K "parameters")) := He.glo_ok X G (S.fact 44 (f := .glo "parameters") rfl)
  have z_max : B.mg "max" = none := He.free_ok X G (S.fact 45 (f := .free "max") rfl)
  have mk_Portal := He.mkr_ok (S.fact 46 (f := .mkr "Portal") rfl)
  have mm_Session__bind := He.meth_ok (S.fact 47 (f := .meth "Session" "_bind") rfl)
  have y_MOST_PORTALS := He.int_ok X G (S.fact 48 (f := .int "MOST_PORTALS" 8) rfl)
  have m_number_of : B.mg "number_of" = some (.ref (He.ga K "number_of")) := He.glo_ok X G (S.fact 49 (f := .glo "number_of") rfl)
  have y_LEAST := He.int_ok X G (S.fact 50 (f := .int "LEAST" (-2147483648)) rfl)
  have y_GREATEST := He.int_ok X G (S.fact 51 (f := .int "GREATEST" 2147483647) rfl)
  have z_int : B.mg "int" = none := He.free_ok X G (S.fact 52 (f := .free "int") rfl)
  have z_all : B.mg "all" = none := He.free_ok X G (S.fact 53 (f := .free "all") rfl)
  have y_DIGITS := He.str_ok X G (S.fact 54 (f := .str "DIGITS" "0123456789") rfl)
  have m_is_string : B.mg "is_string" = some (.ref (He.ga K "is_string")) := He.glo_ok X G (S.fact 55 (f := .glo "is_string") rfl)
  have y_SIGNS := He.str_ok X G (S.fact 56 (f := .str "SIGNS" " !\"#$&'()*+,-./0123456789:;<=>?@ABCDEFGHIJKLMNOPQRSTUVWXYZ[\\]^_`abcdefghijklmnopqrstuvwxyz{|}~") rfl)
  have y_LONGEST_STRING := He.int_ok X G (S.fact 57 (f := .int "LONGEST_STRING" 200) rfl)
  have m_is_text : B.mg "is_text" = some (.ref (He.ga K "is_text")) := He.glo_ok X G (S.fact 58 (f := .glo "is_text") rfl)
  have y_LONGEST_TEXT := He.int_ok X G (S.fact 59 (f := .int "LONGEST_TEXT" 40) rfl)
  have m_term_of : B.mg "term_of" = some (.ref (He.ga K "term_of")) := He.glo_ok X G (S.fact 60 (f := .glo "term_of") rfl)
  have y_MOST_PARAMETERS := He.int_ok X G (S.fact 61 (f := .int "MOST_PARAMETERS" 4) rfl)
  have m_is_name : B.mg "is_name" = some (.ref (He.ga K "is_name")) := He.glo_ok X G (S.fact 62 (f := .glo "is_name") rfl)
  have y_LETTERS := He.str_ok X G (S.fact 63 (f := .str "LETTERS" "abcdefghijklmnopqrstuvwxyz") rfl)
  have y_LONGEST_NAME := He.int_ok X G (S.fact 64 (f := .int "LONGEST_NAME" 8) rfl)
  have m_first_part : B.mg "first_part" = some (.ref (He.ga K "first_part")) := He.glo_ok X G (S.fact 65 (f := .glo "first_part") rfl)
  have m_parts_of : B.mg "parts_of" = some (.ref (He.ga K "parts_of")) := He.glo_ok X G (S.fact 66 (f := .glo "parts_of") rfl)
  have m_read_statement : B.mg "read_statement" = some (.ref (He.ga K "read_statement")) := He.glo_ok X G (S.fact 67 (f := .glo "read_statement") rfl)
  have z_range : B.mg "range" = none := He.free_ok X G (S.fact 68 (f := .free "range") rfl)
  have m_FORMS : B.mg "FORMS" = some (.ref (He.ga K "FORMS")) := He.glo_ok X G (S.fact 69 (f := .glo "FORMS") rfl)
  have mm_Session__prepare := He.meth_ok (S.fact 70 (f := .meth "Session" "_prepare") rfl)
  have y_MOST_STATEMENTS := He.int_ok X G (S.fact 71 (f := .int "MOST_STATEMENTS" 8) rfl)
  have mm_Session__run_command := He.meth_ok (S.fact 72 (f := .meth "Session" "_run_command") rfl)
  have mm_Session__reply := He.meth_ok (S.fact 73 (f := .meth "Session" "_reply") rfl)
  have mm_Session_run_batch := He.meth_ok (S.fact 74 (f := .meth "Session" "run_batch") rfl)
  have m__law_named_hold : B.mg "_law_named_hold" = some (.ref (He.ga K "_law_named_hold")) := He.glo_ok X G (S.fact 75 (f := .glo "_law_named_hold") rfl)
  have z_min : B.mg "min" = none := He.free_ok X G (S.fact 76 (f := .free "min") rfl)
  have m__law_cell : B.mg "_law_cell" = some (.ref (He.ga K "_law_cell")) := He.glo_ok X G (S.fact 77 (f := .glo "_law_cell") rfl)
  have m__law_did7 : B.mg "_law_did" = some (.ref (He.ga K "_law_did")) := He.glo_ok X G (S.fact 78 (f := .glo "_law_did") rfl)
  have m_tables_of : B.mg "tables_of" = some (.ref (He.ga K "tables_of")) := He.glo_ok X G (S.fact 79 (f := .glo "tables_of") rfl)
  have mm_Session_tables := He.meth_ok (S.fact 80 (f := .meth "Session" "tables") rfl)
  have m__law_tables_hold : B.mg "_law_tables_hold" = some (.ref (He.ga K "_law_tables_hold")) := He.glo_ok X G (S.fact 81 (f := .glo "_law_tables_hold") rfl)
  have m__law_saves_hold : B.mg "_law_saves_hold" = some (.ref (He.ga K "_law_saves_hold")) := He.glo_ok X G (S.fact 82 (f := .glo "_law_saves_hold") rfl)
  have m__law_portals_hold : B.mg "_law_portals_hold" = some (.ref (He.ga K "_law_portals_hold")) := He.glo_ok X G (S.fact 83 (f := .glo "_law_portals_hold") rfl)
  have m_law9 : B.mg "law" = some (.ref (He.ga K "law")) := He.glo_ok X G (S.fact 84 (f := .glo "law") rfl)
  have g_FORMS : GdC B "FORMS" tbl_FORMS := SaysM.gd (B := B) S 0 rfl m_FORMS rfl
  have t_ENDINGS : GtC B "ENDINGS" ["commit", "rollback", "undo"] := SaysM.gt (B := B) S 0 rfl m_ENDINGS
  have t_TRANSACTIONS : GtC B "TRANSACTIONS" ["begin", "commit", "rollback", "save", "undo"] := SaysM.gt (B := B) S 1 rfl m_TRANSACTIONS
  have f__store : FdC B (clsL K p0.2) [11] "_store" := fun c hc => by
    rw [List.mem_singleton.mp hc]
    exact ⟨c_Session_, a_Session__store⟩
  have f__base : FdC B (clsL K p0.2) [11] "_base" := fun c hc => by
    rw [List.mem_singleton.mp hc]
    exact ⟨c_Session_, a_Session__base⟩
  have f__state : FdC B (clsL K p0.2) [11] "_state" := fun c hc => by
    rw [List.mem_singleton.mp hc]
    exact ⟨c_Session_, a_Session__state⟩
  have f__savepoints : FdC B (clsL K p0.2) [11] "_savepoints" := fun c hc => by
    rw [List.mem_singleton.mp hc]
    exact ⟨c_Session_, a_Session__savepoints⟩
  have f__statements : FdC B (clsL K p0.2) [11] "_statements" := fun c hc => by
    rw [List.mem_singleton.mp hc]
    exact ⟨c_Session_, a_Session__statements⟩
  have f__portals : FdC B (clsL K p0.2) [11] "_portals" := fun c hc => by
    rw [List.mem_singleton.mp hc]
    exact ⟨c_Session_, a_Session__portals⟩
  have f_parts : FdC B (clsL K p0.2) [10] "parts" := fun c hc => by
    rw [List.mem_singleton.mp hc]
    exact ⟨c_Portal_, a_Portal_parts⟩
  have f_is_done : FdC B (clsL K p0.2) [10] "is_done" := fun c hc => by
    rw [List.mem_singleton.mp hc]
    exact ⟨c_Portal_, a_Portal_is_done⟩
  have f_rows : FdC B (clsL K p0.2) [10] "rows" := fun c hc => by
    rw [List.mem_singleton.mp hc]
    exact ⟨c_Portal_, a_Portal_rows⟩
  have f_given : FdC B (clsL K p0.2) [10] "given" := fun c hc => by
    rw [List.mem_singleton.mp hc]
    exact ⟨c_Portal_, a_Portal_given⟩
  have F_store_of : Fun B.K "store_of" "store_of" s_store_of (He.ga K "store_of") fd_store_of := fun_of D_store_of
  have o_store_of := ok_store_of (B := B) (T := cs.map (·.2)) (cls := clsL K p0.2) F_store_of z_tuple
  have h_store_of := cal_fn o_store_of m_store_of F_store_of.kp (F_store_of.binds (ps := ["tables"]) fun _ _ _ _ _ _ us hl => match us, hl with | [_], _ => rfl) (by decide)
  have o_Session___init__ := ok_Session___init__ (B := B) (T := cs.map (·.2)) (cls := clsL K p0.2) D_Session___init__ f__store f__base z_dict f__state f__savepoints f__statements f__portals h_store_of
  have n_Session_0 := nw_fnD (B := B) (T := cs.map (·.2)) (cls := clsL K p0.2) (x := "Session") (c := 11) m_Session (by decide) mk_Session o_Session___init__ (FunD.binds1 (ps := ["self", "tables"]) D_Session___init__ 1 0 (by simp [He.DefD.dvs, d_Session___init__]) rfl fun T kV doc pm an cdv ct us its h1 h2 => match us, its, h1, h2 with | [_], [_], _, _ => ⟨_, rfl, rfl⟩) (S.emp ("Session", some "__init__") (by decide +kernel))
  have n_Session_1 := nw_fn (B := B) (T := cs.map (·.2)) (cls := clsL K p0.2) (x := "Session") (c := 11) m_Session (by decide) mk_Session o_Session___init__ (binds_full (FunD.binds1 (ps := ["self", "tables"]) D_Session___init__ 2 1 (by simp [He.DefD.dvs, d_Session___init__]) rfl fun T kV doc pm an cdv ct us its h1 h2 => match us, its, h1, h2 with | [_, _], [_], _, _ => ⟨_, rfl, rfl⟩))
  have F_Session__end : Fun B.K "_end" "Session._end" s_Session__end (He.ma K (He.ga K "Session") "_end") fd_Session__end := fun_of D_Session__end
  have o_Session__end := ok_Session__end (B := B) (T := cs.map (·.2)) (cls := clsL K p0.2) F_Session__end f__state f__base z_dict f__store f__savepoints f__portals
  have h_Session__end := me_fn (B := B) (T := cs.map (·.2)) (cls := clsL K p0.2) (c := 11) (m := "_end") c_Session_ mm_Session__end o_Session__end (F_Session__end.binds (ps := ["self", "word"]) fun _ _ _ _ _ _ us hl => match us, hl with | [_, _], _ => rfl)
  have F_Session__undo : Fun B.K "_undo" "Session._undo" s_Session__undo (He.ma K (He.ga K "Session") "_undo") fd_Session__undo := fun_of D_Session__undo
  have o_Session__undo := ok_Session__undo (B := B) (T := cs.map (·.2)) (cls := clsL K p0.2) F_Session__undo z_enumerate f__savepoints f__store z_dict f__state
  have h_Session__undo := me_fn (B := B) (T := cs.map (·.2)) (cls := clsL K p0.2) (c := 11) (m := "_undo") c_Session_ mm_Session__undo o_Session__undo (F_Session__undo.binds (ps := ["self", "name"]) fun _ _ _ _ _ _ us hl => match us, hl with | [_, _], _ => rfl)
  have F_Session__save : Fun B.K "_save" "Session._save" s_Session__save (He.ma K (He.ga K "Session") "_save") fd_Session__save := fun_of D_Session__save
  have o_Session__save := ok_Session__save (B := B) (T := cs.map (·.2)) (cls := clsL K p0.2) F_Session__save f__savepoints z_dict f__store z_len y_MOST_SAVEPOINTS
  have h_Session__save := me_fn (B := B) (T := cs.map (·.2)) (cls := clsL K p0.2) (c := 11) (m := "_save") c_Session_ mm_Session__save o_Session__save (F_Session__save.binds (ps := ["self", "name"]) fun _ _ _ _ _ _ us hl => match us, hl with | [_, _], _ => rfl)
  have F_Session__begin : Fun B.K "_begin" "Session._begin" s_Session__begin (He.ma K (He.ga K "Session") "_begin") fd_Session__begin := fun_of D_Session__begin
  have o_Session__begin := ok_Session__begin (B := B) (T := cs.map (·.2)) (cls := clsL K p0.2) F_Session__begin f__state
  have h_Session__begin := me_fn (B := B) (T := cs.map (·.2)) (cls := clsL K p0.2) (c := 11) (m := "_begin") c_Session_ mm_Session__begin o_Session__begin (F_Session__begin.binds (ps := ["self"]) fun _ _ _ _ _ _ us hl => match us, hl with | [_], _ => rfl)
  have F_rank : Fun B.K "rank" "rank" s_rank (He.ga K "rank") fd_rank := fun_of D_rank
  have o_rank := ok_rank (B := B) (T := cs.map (·.2)) (cls := clsL K p0.2) F_rank z_isinstance z_str
  have h_rank := cal_fn o_rank m_rank F_rank.kp (F_rank.binds (ps := ["value"]) fun _ _ _ _ _ _ us hl => match us, hl with | [_], _ => rfl) (by decide)
  have F_found : Fun B.K "found" "found" s_found (He.ga K "found") fd_found := fun_of D_found
  have o_found := ok_found (B := B) (T := cs.map (·.2)) (cls := clsL K p0.2) F_found z_len z_list h_rank
  have h_found := cal_fn o_found m_found F_found.kp (F_found.binds (ps := ["store", "word", "name", "values"]) fun _ _ _ _ _ _ us hl => match us, hl with | [_, _, _, _], _ => rfl) (by decide)
  have F_without : Fun B.K "without" "without" s_without (He.ga K "without") fd_without := fun_of D_without
  have o_without := ok_without (B := B) (T := cs.map (·.2)) (cls := clsL K p0.2) F_without
  have h_without := cal_fn o_without m_without F_without.kp (F_without.binds (ps := ["rows", "key"]) fun _ _ _ _ _ _ us hl => match us, hl with | [_, _], _ => rfl) (by decide)
  have F_delete : Fun B.K "delete" "delete" s_delete (He.ga K "delete") fd_delete := fun_of D_delete
  have o_delete := ok_delete (B := B) (T := cs.map (·.2)) (cls := clsL K p0.2) F_delete z_tuple z_len h_without
  have h_delete := cal_fn o_delete m_delete F_delete.kp (F_delete.binds (ps := ["store", "name", "key"]) fun _ _ _ _ _ _ us hl => match us, hl with | [_, _, _], _ => rfl) (by decide)
  have l_put : ∀ cdv, PySem.W.codeIn B.K cdv "put" = true → (∃ oc od kV doc pm an ct osl, B.K.lookup (He.ga K "put") = some ⟨oc, od, .func (PySem.W.fnOf "put" "put" (defArgs s_put) (defBody s_put) (defScope s_put) .none kV doc pm an cdv ct), osl⟩) → ∃ c, cdv = .ref c ∧ LamX.TabB B.base B.mg c (clsL K p0.2 1000) := by
    rintro cdv _ ⟨oc, od, kV, doc, pm, an, ct, osl, lk⟩
    exact ⟨p0.1, code_link lk0 lk, hT p0 (List.mem_append_right _ hp0)⟩
  have F_put : Fun B.K "put" "put" s_put (He.ga K "put") fd_put := fun_of D_put
  have o_put := ok_put (B := B) (T := cs.map (·.2)) (cls := clsL K p0.2) F_put l_put z_tuple z_sorted z1000 h_rank z_len y_MOST_ROWS h_without
  have h_put := cal_fn o_put m_put F_put.kp (F_put.binds (ps := ["store", "name", "key", "entry"]) fun _ _ _ _ _ _ us hl => match us, hl with | [_, _, _, _], _ => rfl) (by decide)
  have F_create : Fun B.K "create" "create" s_create (He.ga K "create") fd_create := fun_of D_create
  have o_create := ok_create (B := B) (T := cs.map (·.2)) (cls := clsL K p0.2) F_create z_len y_MOST_TABLES
  have h_create := cal_fn o_create m_create F_create.kp (F_create.binds (ps := ["store", "name"]) fun _ _ _ _ _ _ us hl => match us, hl with | [_, _], _ => rfl) (by decide)
  have F_do : Fun B.K "do" "do" s_do (He.ga K "do") fd_do := fun_of D_do
  have o_do := ok_do (B := B) (T := cs.map (·.2)) (cls := clsL K p0.2) F_do z_len h_found h_delete h_put h_create
  have h_do := cal_fn o_do m_do F_do.kp (F_do.binds (ps := ["store", "parts"]) fun _ _ _ _ _ _ us hl => match us, hl with | [_, _], _ => rfl) (by decide)
  have F_Session__do : Fun B.K "_do" "Session._do" s_Session__do (He.ma K (He.ga K "Session") "_do") fd_Session__do := fun_of D_Session__do
  have o_Session__do := ok_Session__do (B := B) (T := cs.map (·.2)) (cls := clsL K p0.2) F_Session__do f__state t_TRANSACTIONS f__store h_Session__end h_Session__undo h_Session__save h_Session__begin h_do
  have h_Session__do := me_fn (B := B) (T := cs.map (·.2)) (cls := clsL K p0.2) (c := 11) (m := "_do") c_Session_ mm_Session__do o_Session__do (F_Session__do.binds (ps := ["self", "parts"]) fun _ _ _ _ _ _ us hl => match us, hl with | [_, _], _ => rfl)
  have F_filled : Fun B.K "filled" "filled" s_filled (He.ga K "filled") fd_filled := fun_of D_filled
  have o_filled := ok_filled (B := B) (T := cs.map (·.2)) (cls := clsL K p0.2) F_filled z_isinstance z_tuple z_list
  have h_filled := cal_fn o_filled m_filled F_filled.kp (F_filled.binds (ps := ["parts", "values"]) fun _ _ _ _ _ _ us hl => match us, hl with | [_, _], _ => rfl) (by decide)
  have F_Session__run : Fun B.K "_run" "Session._run" s_Session__run (He.ma K (He.ga K "Session") "_run") fd_Session__run := fun_of D_Session__run
  have o_Session__run := ok_Session__run (B := B) (T := cs.map (·.2)) (cls := clsL K p0.2) F_Session__run f__portals f_parts t_ENDINGS f__state f_is_done f_rows f_given z_len h_Session__do h_filled
  have h_Session__run := me_fn (B := B) (T := cs.map (·.2)) (cls := clsL K p0.2) (c := 11) (m := "_run") c_Session_ mm_Session__run o_Session__run (F_Session__run.binds (ps := ["self", "name", "most"]) fun _ _ _ _ _ _ us hl => match us, hl with | [_, _, _], _ => rfl)
  have F_parameter_numbers : Fun B.K "parameter_numbers" "parameter_numbers" s_parameter_numbers (He.ga K "parameter_numbers") fd_parameter_numbers := fun_of D_parameter_numbers
  have o_parameter_numbers := ok_parameter_numbers (B := B) (T := cs.map (·.2)) (cls := clsL K p0.2) F_parameter_numbers z_isinstance z_list z_tuple
  have h_parameter_numbers := cal_fn o_parameter_numbers m_parameter_numbers F_parameter_numbers.kp (F_parameter_numbers.binds (ps := ["parts"]) fun _ _ _ _ _ _ us hl => match us, hl with | [_], _ => rfl) (by decide)
  have F_parameters : Fun B.K "parameters" "parameters" s_parameters (He.ga K "parameters") fd_parameters := fun_of D_parameters
  have o_parameters := ok_parameters (B := B) (T := cs.map (·.2)) (cls := clsL K p0.2) F_parameters z_max h_parameter_numbers
  have h_parameters := cal_fn o_parameters m_parameters F_parameters.kp (F_parameters.binds (ps := ["parts"]) fun _ _ _ _ _ _ us hl => match us, hl with | [_], _ => rfl) (by decide)
  have F_Portal___init__ : Fun B.K "__init__" "Portal.__init__" s_Portal___init__ (He.ma K (He.ga K "Portal") "__init__") fd_Portal___init__ := fun_of D_Portal___init__
  have o_Portal___init__ := ok_Portal___init__ (B := B) (T := cs.map (·.2)) (cls := clsL K p0.2) F_Portal___init__ f_is_done f_rows f_given f_parts
  have n_Portal_2 := nw_fn (B := B) (T := cs.map (·.2)) (cls := clsL K p0.2) (x := "Portal") (c := 10) m_Portal (by decide) mk_Portal o_Portal___init__ (F_Portal___init__.binds (ps := ["self", "parts", "values"]) fun _ _ _ _ _ _ us hl => match us, hl with | [_, _, _], _ => rfl)
  have F_Session__bind : Fun B.K "_bind" "Session._bind" s_Session__bind (He.ma K (He.ga K "Session") "_bind") fd_Session__bind := fun_of D_Session__bind
  have o_Session__bind := ok_Session__bind (B := B) (T := cs.map (·.2)) (cls := clsL K p0.2) F_Session__bind f__portals z_len y_MOST_PORTALS f__statements n_Portal_2 h_parameters
  have h_Session__bind := me_fn (B := B) (T := cs.map (·.2)) (cls := clsL K p0.2) (c := 11) (m := "_bind") c_Session_ mm_Session__bind o_Session__bind (F_Session__bind.binds (ps := ["self", "portal", "name", "values"]) fun _ _ _ _ _ _ us hl => match us, hl with | [_, _, _, _], _ => rfl)
  have l_number_of : ∀ cdv, PySem.W.codeIn B.K cdv "number_of" = true → (∃ oc od kV doc pm an ct osl, B.K.lookup (He.ga K "number_of") = some ⟨oc, od, .func (PySem.W.fnOf "number_of" "number_of" (defArgs s_number_of) (defBody s_number_of) (defScope s_number_of) .none kV doc pm an cdv ct), osl⟩) → ∃ c P, cdv = .ref c ∧ GxR.TabB B.base B.mg c P ∧ P ∈ cs.map (·.2) := by
    rintro cdv _ ⟨oc, od, kV, doc, pm, an, ct, osl, lk⟩
    obtain ⟨p, hp, hl⟩ := S.link "number_of" (by decide +kernel)
    have t := hT p (List.mem_append_left _ hp)
    exact ⟨p.1, p.2, code_link hl lk, ⟨t.code, t.bm, t.gP⟩, List.mem_map_of_mem hp⟩
  have F_number_of : Fun B.K "number_of" "number_of" s_number_of (He.ga K "number_of") fd_number_of := fun_of D_number_of
  have o_number_of := ok_number_of (B := B) (T := cs.map (·.2)) (cls := clsL K p0.2) F_number_of l_number_of y_LEAST y_GREATEST z_int z_all y_DIGITS z_len
  have h_number_of := cal_fn o_number_of m_number_of F_number_of.kp (F_number_of.binds (ps := ["part"]) fun _ _ _ _ _ _ us hl => match us, hl with | [_], _ => rfl) (by decide)
  have l_is_string : ∀ cdv, PySem.W.codeIn B.K cdv "is_string" = true → (∃ oc od kV doc pm an ct osl, B.K.lookup (He.ga K "is_string") = some ⟨oc, od, .func (PySem.W.fnOf "is_string" "is_string" (defArgs s_is_string) (defBody s_is_string) (defScope s_is_string) .none kV doc pm an cdv ct), osl⟩) → ∃ c P, cdv = .ref c ∧ GxR.TabB B.base B.mg c P ∧ P ∈ cs.map (·.2) := by
    rintro cdv _ ⟨oc, od, kV, doc, pm, an, ct, osl, lk⟩
    obtain ⟨p, hp, hl⟩ := S.link "is_string" (by decide +kernel)
    have t := hT p (List.mem_append_left _ hp)
    exact ⟨p.1, p.2, code_link hl lk, ⟨t.code, t.bm, t.gP⟩, List.mem_map_of_mem hp⟩
  have F_is_string : Fun B.K "is_string" "is_string" s_is_string (He.ga K "is_string") fd_is_string := fun_of D_is_string
  have o_is_string := ok_is_string (B := B) (T := cs.map (·.2)) (cls := clsL K p0.2) F_is_string l_is_string z_all y_SIGNS z_len y_LONGEST_STRING z_isinstance z_str
  have h_is_string := cal_fn o_is_string m_is_string F_is_string.kp (F_is_string.binds (ps := ["value"]) fun _ _ _ _ _ _ us hl => match us, hl with | [_], _ => rfl) (by decide)
  have F_is_text : Fun B.K "is_text" "is_text" s_is_text (He.ga K "is_text") fd_is_text := fun_of D_is_text
  have o_is_text := ok_is_text (B := B) (T := cs.map (·.2)) (cls := clsL K p0.2) F_is_text z_len y_LONGEST_TEXT h_is_string
  have h_is_text := cal_fn o_is_text m_is_text F_is_text.kp (F_is_text.binds (ps := ["value"]) fun _ _ _ _ _ _ us hl => match us, hl with | [_], _ => rfl) (by decide)
  have F_term_of : Fun B.K "term_of" "term_of" s_term_of (He.ga K "term_of") fd_term_of := fun_of D_term_of
  have o_term_of := ok_term_of (B := B) (T := cs.map (·.2)) (cls := clsL K p0.2) F_term_of z_int y_DIGITS y_MOST_PARAMETERS z_len h_number_of h_is_text
  have h_term_of := cal_fn o_term_of m_term_of F_term_of.kp (F_term_of.binds (ps := ["part"]) fun _ _ _ _ _ _ us hl => match us, hl with | [_], _ => rfl) (by decide)
  have l_is_name : ∀ cdv, PySem.W.codeIn B.K cdv "is_name" = true → (∃ oc od kV doc pm an ct osl, B.K.lookup (He.ga K "is_name") = some ⟨oc, od, .func (PySem.W.fnOf "is_name" "is_name" (defArgs s_is_name) (defBody s_is_name) (defScope s_is_name) .none kV doc pm an cdv ct), osl⟩) → ∃ c P, cdv = .ref c ∧ GxR.TabB B.base B.mg c P ∧ P ∈ cs.map (·.2) := by
    rintro cdv _ ⟨oc, od, kV, doc, pm, an, ct, osl, lk⟩
    obtain ⟨p, hp, hl⟩ := S.link "is_name" (by decide +kernel)
    have t := hT p (List.mem_append_left _ hp)
    exact ⟨p.1, p.2, code_link hl lk, ⟨t.code, t.bm, t.gP⟩, List.mem_map_of_mem hp⟩
  have F_is_name : Fun B.K "is_name" "is_name" s_is_name (He.ga K "is_name") fd_is_name := fun_of D_is_name
  have o_is_name := ok_is_name (B := B) (T := cs.map (·.2)) (cls := clsL K p0.2) F_is_name l_is_name z_all y_LETTERS z_len y_LONGEST_NAME z_isinstance z_str
  have h_is_name := cal_fn o_is_name m_is_name F_is_name.kp (F_is_name.binds (ps := ["value"]) fun _ _ _ _ _ _ us hl => match us, hl with | [_], _ => rfl) (by decide)
  have F_first_part : Fun B.K "first_part" "first_part" s_first_part (He.ga K "first_part") fd_first_part := fun_of D_first_part
  have o_first_part := ok_first_part (B := B) (T := cs.map (·.2)) (cls := clsL K p0.2) F_first_part
  have h_first_part := cal_fn o_first_part m_first_part F_first_part.kp (F_first_part.binds (ps := ["string"]) fun _ _ _ _ _ _ us hl => match us, hl with | [_], _ => rfl) (by decide)
  have F_parts_of : Fun B.K "parts_of" "parts_of" s_parts_of (He.ga K "parts_of") fd_parts_of := fun_of D_parts_of
  have o_parts_of := ok_parts_of (B := B) (T := cs.map (·.2)) (cls := clsL K p0.2) F_parts_of z_len h_first_part
  have h_parts_of := cal_fn o_parts_of m_parts_of F_parts_of.kp (F_parts_of.binds (ps := ["string"]) fun _ _ _ _ _ _ us hl => match us, hl with | [_], _ => rfl) (by decide)
  have l_read_statement : ∀ cdv, PySem.W.codeIn B.K cdv "read_statement" = true → (∃ oc od kV doc pm an ct osl, B.K.lookup (He.ga K "read_statement") = some ⟨oc, od, .func (PySem.W.fnOf "read_statement" "read_statement" (defArgs s_read_statement) (defBody s_read_statement) (defScope s_read_statement) .none kV doc pm an cdv ct), osl⟩) → ∃ c P, cdv = .ref c ∧ GxR.TabB B.base B.mg c P ∧ P ∈ cs.map (·.2) := by
    rintro cdv _ ⟨oc, od, kV, doc, pm, an, ct, osl, lk⟩
    obtain ⟨p, hp, hl⟩ := S.link "read_statement" (by decide +kernel)
    have t := hT p (List.mem_append_left _ hp)
    exact ⟨p.1, p.2, code_link hl lk, ⟨t.code, t.bm, t.gP⟩, List.mem_map_of_mem hp⟩
  have F_read_statement : Fun B.K "read_statement" "read_statement" s_read_statement (He.ga K "read_statement") fd_read_statement := fun_of D_read_statement
  have o_read_statement := ok_read_statement (B := B) (T := cs.map (·.2)) (cls := clsL K p0.2) F_read_statement l_read_statement z_range z_all z_tuple z_len g_FORMS h_parameters h_parameter_numbers h_term_of h_is_name h_is_string h_parts_of
  have h_read_statement := cal_fn o_read_statement m_read_statement F_read_statement.kp (F_read_statement.binds (ps := ["string"]) fun _ _ _ _ _ _ us hl => match us, hl with | [_], _ => rfl) (by decide)
  have F_Session__prepare : Fun B.K "_prepare" "Session._prepare" s_Session__prepare (He.ma K (He.ga K "Session") "_prepare") fd_Session__prepare := fun_of D_Session__prepare
  have o_Session__prepare := ok_Session__prepare (B := B) (T := cs.map (·.2)) (cls := clsL K p0.2) F_Session__prepare f__statements z_len y_MOST_STATEMENTS h_parameters h_read_statement
  have h_Session__prepare := me_fn (B := B) (T := cs.map (·.2)) (cls := clsL K p0.2) (c := 11) (m := "_prepare") c_Session_ mm_Session__prepare o_Session__prepare (F_Session__prepare.binds (ps := ["self", "name", "string"]) fun _ _ _ _ _ _ us hl => match us, hl with | [_, _, _], _ => rfl)
  have F_Session__run_command : Fun B.K "_run_command" "Session._run_command" s_Session__run_command (He.ma K (He.ga K "Session") "_run_command") fd_Session__run_command := fun_of D_Session__run_command
  have o_Session__run_command := ok_Session__run_command (B := B) (T := cs.map (·.2)) (cls := clsL K p0.2) F_Session__run_command f__statements f__portals z_tuple h_Session__run h_Session__bind h_Session__prepare
  have h_Session__run_command := me_fn (B := B) (T := cs.map (·.2)) (cls := clsL K p0.2) (c := 11) (m := "_run_command") c_Session_ mm_Session__run_command o_Session__run_command (F_Session__run_command.binds (ps := ["self", "command"]) fun _ _ _ _ _ _ us hl => match us, hl with | [_, _], _ => rfl)
  have F_Session__reply : Fun B.K "_reply" "Session._reply" s_Session__reply (He.ma K (He.ga K "Session") "_reply") fd_Session__reply := fun_of D_Session__reply
  have o_Session__reply := ok_Session__reply (B := B) (T := cs.map (·.2)) (cls := clsL K p0.2) F_Session__reply f__state f__portals f__store z_dict f__base h_Session__run_command
  have h_Session__reply := me_fn (B := B) (T := cs.map (·.2)) (cls := clsL K p0.2) (c := 11) (m := "_reply") c_Session_ mm_Session__reply o_Session__reply (F_Session__reply.binds (ps := ["self", "command"]) fun _ _ _ _ _ _ us hl => match us, hl with | [_, _], _ => rfl)
  have F_Session_run_batch : Fun B.K "run_batch" "Session.run_batch" s_Session_run_batch (He.ma K (He.ga K "Session") "run_batch") fd_Session_run_batch := fun_of D_Session_run_batch
  have o_Session_run_batch := ok_Session_run_batch (B := B) (T := cs.map (·.2)) (cls := clsL K p0.2) F_Session_run_batch f__state f__portals f__base z_dict f__store h_Session__reply
  have h_Session_run_batch := me_fn (B := B) (T := cs.map (·.2)) (cls := clsL K p0.2) (c := 11) (m := "run_batch") c_Session_ mm_Session_run_batch o_Session_run_batch (F_Session_run_batch.binds (ps := ["self", "commands"]) fun _ _ _ _ _ _ us hl => match us, hl with | [_, _], _ => rfl)
  have F__law_named_hold : Fun B.K "_law_named_hold" "_law_named_hold" s__law_named_hold (He.ga K "_law_named_hold") fd__law_named_hold := fun_of D__law_named_hold
  have o__law_named_hold := ok__law_named_hold (B := B) (T := cs.map (·.2)) (cls := clsL K p0.2) F__law_named_hold z_int z_range z_min n_Session_0 h_Session_run_batch
  have h__law_named_hold := cal_fn o__law_named_hold m__law_named_hold F__law_named_hold.kp (F__law_named_hold.binds (ps := ["_law_count"]) fun _ _ _ _ _ _ us hl => match us, hl with | [_], _ => rfl) (by decide)
  have F__law_cell : Fun B.K "_law_cell" "_law_cell" s__law_cell (He.ga K "_law_cell") fd__law_cell := fun_of D__law_cell
  have o__law_cell := ok__law_cell (B := B) (T := cs.map (·.2)) (cls := clsL K p0.2) F__law_cell z_len
  have h__law_cell := cal_fn o__law_cell m__law_cell F__law_cell.kp (F__law_cell.binds (ps := ["_law_script", "_law_k"]) fun _ _ _ _ _ _ us hl => match us, hl with | [_, _], _ => rfl) (by decide)
  have F__law_did7 : Fun B.K "_law_did" "_law_did" s__law_did7 (He.ga K "_law_did") fd__law_did7 := fun_of D__law_did7
  have o__law_did7 := ok__law_did7 (B := B) (T := cs.map (·.2)) (cls := clsL K p0.2) F__law_did7 h_Session_run_batch
  have h__law_did7 := cal_fn o__law_did7 m__law_did7 F__law_did7.kp (F__law_did7.binds (ps := ["_law_session", "_law_string", "_law_values"]) fun _ _ _ _ _ _ us hl => match us, hl with | [_, _, _], _ => rfl) (by decide)
  have F_tables_of : Fun B.K "tables_of" "tables_of" s_tables_of (He.ga K "tables_of") fd_tables_of := fun_of D_tables_of
  have o_tables_of := ok_tables_of (B := B) (T := cs.map (·.2)) (cls := clsL K p0.2) F_tables_of z_list
  have h_tables_of := cal_fn o_tables_of m_tables_of F_tables_of.kp (F_tables_of.binds (ps := ["store"]) fun _ _ _ _ _ _ us hl => match us, hl with | [_], _ => rfl) (by decide)
  have F_Session_tables : Fun B.K "tables" "Session.tables" s_Session_tables (He.ma K (He.ga K "Session") "tables") fd_Session_tables := fun_of D_Session_tables
  have o_Session_tables := ok_Session_tables (B := B) (T := cs.map (·.2)) (cls := clsL K p0.2) F_Session_tables f__store h_tables_of
  have h_Session_tables := me_fn (B := B) (T := cs.map (·.2)) (cls := clsL K p0.2) (c := 11) (m := "tables") c_Session_ mm_Session_tables o_Session_tables (F_Session_tables.binds (ps := ["self"]) fun _ _ _ _ _ _ us hl => match us, hl with | [_], _ => rfl)
  have F__law_tables_hold : Fun B.K "_law_tables_hold" "_law_tables_hold" s__law_tables_hold (He.ga K "_law_tables_hold") fd__law_tables_hold := fun_of D__law_tables_hold
  have o__law_tables_hold := ok__law_tables_hold (B := B) (T := cs.map (·.2)) (cls := clsL K p0.2) F__law_tables_hold z_range n_Session_0 h__law_did7 h_Session_tables
  have h__law_tables_hold := cal_fn o__law_tables_hold m__law_tables_hold F__law_tables_hold.kp (F__law_tables_hold.binds (ps := ["_law_count"]) fun _ _ _ _ _ _ us hl => match us, hl with | [_], _ => rfl) (by decide)
  have F__law_saves_hold : Fun B.K "_law_saves_hold" "_law_saves_hold" s__law_saves_hold (He.ga K "_law_saves_hold") fd__law_saves_hold := fun_of D__law_saves_hold
  have o__law_saves_hold := ok__law_saves_hold (B := B) (T := cs.map (·.2)) (cls := clsL K p0.2) F__law_saves_hold z_int z_range n_Session_0 h__law_did7
  have h__law_saves_hold := cal_fn o__law_saves_hold m__law_saves_hold F__law_saves_hold.kp (F__law_saves_hold.binds (ps := ["_law_count"]) fun _ _ _ _ _ _ us hl => match us, hl with | [_], _ => rfl) (by decide)
  have F__law_portals_hold : Fun B.K "_law_portals_hold" "_law_portals_hold" s__law_portals_hold (He.ga K "_law_portals_hold") fd__law_portals_hold := fun_of D__law_portals_hold
  have o__law_portals_hold := ok__law_portals_hold (B := B) (T := cs.map (·.2)) (cls := clsL K p0.2) F__law_portals_hold z_range n_Session_0 h__law_did7 h_Session_run_batch
  have h__law_portals_hold := fc_fn o__law_portals_hold m__law_portals_hold F__law_portals_hold.kp (F__law_portals_hold.binds (ps := []) fun _ _ _ _ _ _ us hl => match us, hl with | [], _ => rfl) (by decide)
  have F_law9 : Fun B.K "law" "law" s_law9 (He.ga K "law") fd_law9 := fun_of D_law9
  have o_law9 := ok_law9 (B := B) (T := cs.map (·.2)) (cls := clsL K p0.2) F_law9 z_range z_int n_Session_1 h__law_named_hold h__law_cell h__law_tables_hold h__law_saves_hold h__law_portals_hold h__law_did7 h_Session_tables
  exact o_law9
abbrev RR : PySem.W.OpenRow := PySem.W.OpenLaw.row PySem.Challenge.rw_batchends_k09_bounds_of_sessions
def loose0 : List PySem.Str := ["_wall", "__name__", "LETTERS", "DIGITS", "SIGNS", "LEAST", "GREATEST", "LONGEST_NAME", "LONGEST_TEXT", "LONGEST_STRING", "is_name", "is_string", "is_text", "rank", "FORMS", "MOST_PARAMETERS", "first_part", "parts_of", "number_of", "term_of", "parameter_numbers", "parameters", "read_statement", "filled", "MOST_TABLES", "MOST_ROWS", "store_of", "tables_of", "without", "create"]
def loose1 : List PySem.Str := ["put", "delete", "found", "do", "MOST_STATEMENTS", "MOST_PORTALS", "MOST_SAVEPOINTS", "ENDINGS", "TRANSACTIONS", "Portal", "Session", "_law_cell", "_law_row", "_law_did", "_law_words", "_law_tables_hold", "_law_named_hold", "_law_portals_hold", "_law_saves_hold"]
def looseL : List PySem.Str := loose0 ++ loose1
abbrev hkL : PySem.W.Hook := hookM 8 faL fnL tsL usL cxL lmL emL
def obL (s : PySem.W.SharedT) : AlM := obsM 8 faL fnL tsL usL cxL lmL emL (HandSHeadRun.getT s)
theorem obL_eq (s : PySem.W.SharedT) : obL s = hkL.obs s.abs := obsM_eq (HandSHeadRun.getT_eq s)
set_option maxHeartbeats 0 in
theorem run_false (w : World) : HandSHeadRun.RunEq RR (PySem.W.view RR.prog [53]) hkL obL 4000 looseL (w.withFollow "special-get-raises" false) := by
  intro os
  kernel_rfl
set_option maxHeartbeats 0 in
theorem run_true (w : World) : HandSHeadRun.RunEq RR (PySem.W.view RR.prog [53]) hkL obL 4000 looseL (w.withFollow "special-get-raises" true) := by
  intro os
  kernel_rfl
theorem runL (w : World) : HandSHeadRun.RunEq RR (PySem.W.view RR.prog [53]) hkL obL 4000 looseL w := PySem.W.byRow2 "special-get-raises" (P := fun w => HandSHeadRun.RunEq RR (PySem.W.view RR.prog [53]) hkL obL 4000 looseL w) run_false run_true w
end M
open PySem PySem.W PySem.Calls PyProof.Rows
set_option maxHeartbeats 0 in
theorem PySem.Challenge.cw_batchends_k09_bounds_of_sessions_holds : PySem.Challenge.rw_batchends_k09_bounds_of_sessions.Holds := by
  w_on; o_law
  refine HandSHeadRun.head_any (r := OpenLaw.row PySem.Challenge.rw_batchends_k09_bounds_of_sessions) (q := view (OpenLaw.row PySem.Challenge.rw_batchends_k09_bounds_of_sessions).prog [53]) (H := M.hkL) (ob := M.obL) (M := 4000) (loose := M.looseL) (d := HandSHeadRun.topDef (OpenLaw.row PySem.Challenge.rw_batchends_k09_bounds_of_sessions).prog 53) (kwd := []) M.obL_eq
    (by kernel_rfl) (fun s => by kernel_rfl) M.runL (by kernel_rfl) (by kernel_rfl) (by kernel_rfl) (by rfl) (by first | assumption | decide +kernel) (by decide +kernel) ⟨rfl, rfl, rfl, rfl, rfl, by decide +kernel⟩ ?hw ?hc
  case hw => w_witness2
  case hc =>
    refine LamX.walk_ofTsE (l := PySem.Challenge.rw_batchends_k09_bounds_of_sessions) (n := 63) (k := 14) (x := "_law_script") (CX := fun w => L2.CX (PySem.Challenge.rw_batchends_k09_bounds_of_sessions).prog w) rfl (by decide) (by kernel_rfl) ⟨rfl, by decide, by decide⟩ ?F (fun _ _ _ _ _ z => M.cx_false z)
    intro w mg fa h Y G hmg0
    obtain ⟨K, cs, ls, S⟩ := Y
    have hmg : mg ("law" : PySem.Str) = some (.ref fa) := by
      have e : (HandSHeadRun.topDef (OpenLaw.row PySem.Challenge.rw_batchends_k09_bounds_of_sessions).prog 53).name = ("law" : PySem.Str) := by kernel_rfl
      rw [← e]
      exact hmg0
    obtain ⟨fd, hb, p0, hp0, hF⟩ := M.facts (P := (PySem.Challenge.rw_batchends_k09_bounds_of_sessions).prog) (w := w) S G hmg
    exact ⟨K, S.kin, fd, cs ++ ls, _, fun p hp => (S.tabs p hp).2.2, fun p hp => (S.tabs p hp).1, fun p hp => (S.tabs p hp).2.1, hb, fun H a ns hl hbits hH hS => M.law_start (fun b hb2 => by
      obtain ⟨p, hp, e⟩ := List.mem_map.mp hb2
      rw [← e]
      exact hH p (List.mem_append_left _ hp)) (fun z => by
      obtain ⟨h1, q, hq, e⟩ := hp0 z
      refine ⟨h1, ?_⟩
      have := hH q (List.mem_append_right _ hq)
      rw [e] at this
      exact this) hS fun QM hQ => M.law_spec9 ns hl hbits QM hQ, hF⟩
end
