import PyProof.Rows.All
import Wide.All
import OpenK.AllK
import Wide.FinOn
import HandS.ForMost
import HandS.ForExc
import HandS.CallSlots
import HandS.AnyAll
import HandS.Deep
import HandS.IsInst
import KE.DataEq
import HandS.SortKw
import HandS.More
import HandS.StrMore
import HandS.RaiseMore
import HandS.Text
import HandS.Codes
import PyProof.StrLawsFrom
import KE.KNestM
import KE.KStateDown
import HandS.EndTab
import HandS.HeadWalk
import HandS.Head0
import HandS.Head1
import HandS.Head2
import HandS.HeadEnd
import HandS.HeadHook1
import HandS.HeadHook2
import HandS.HeadHook3
import PySem.Challenge.RW_batchends_k01_statements_read
section
set_option Elab.async false
set_option linter.all false
set_option maxRecDepth 100000
set_option maxHeartbeats 4000000
/-! M: a machine over plain data with a store of cells, and what it has to do with the layer's abstract heap. -/
namespace M
open PySem PySem.Spec PyProof.Rows L2

/-- plain data; obj k: the k-th cell of the store -/
inductive D where
  | non | bl (b : Bool) | int (i : Int) | str (s : Str) | ty (n : String) | tup (ds : List D) | lst (ds : List D) | scr (ds : List D) | obj (k : Nat)
instance : Inhabited D := ⟨.non⟩
/-- what a cell holds -/
inductive Cell where
  | lst (ds : List D) | dct (kvs : List (Key × D)) | ins (c : Nat) (fs : List (Str × D))
abbrev Env := List (Option D)
structure Sto where
  next : Nat
  cell : Nat → Option Cell
def Sto.put (μ : Sto) (k : Nat) (c : Cell) : Sto := ⟨μ.next, fun j => if j = k then some c else μ.cell j⟩
def Sto.new (μ : Sto) (c : Cell) : Sto := ⟨μ.next + 1, fun j => if j = μ.next then some c else μ.cell j⟩
def Sto.del (μ : Sto) (k : Nat) : Sto := ⟨μ.next, fun j => if j = k then none else μ.cell j⟩
theorem Sto.put_same {μ : Sto} {k : Nat} {c : Cell} : (μ.put k c).cell k = some c := if_pos rfl
theorem Sto.put_ne {μ : Sto} {k j : Nat} {c : Cell} (h : j ≠ k) : (μ.put k c).cell j = μ.cell j := if_neg h
theorem Sto.new_same {μ : Sto} {c : Cell} : (μ.new c).cell μ.next = some c := if_pos rfl
theorem Sto.new_ne {μ : Sto} {j : Nat} {c : Cell} (h : j ≠ μ.next) : (μ.new c).cell j = μ.cell j := if_neg h
theorem Sto.del_same {μ : Sto} {k : Nat} : (μ.del k).cell k = none := if_pos rfl
theorem Sto.del_ne {μ : Sto} {k j : Nat} (h : j ≠ k) : (μ.del k).cell j = μ.cell j := if_neg h

/-- what is fixed: the written part, the code objects' tables, the classes' addresses -/
structure Wd where
  K : PySem.W.Frag
  T : List Addr
  cls : Nat → Addr

/-- all that was there is there; a code object's table may have grown -/
def Ext (G G' : Hp) : Prop := ∀ a o, G a = some o → G' a = some o ∨ ∃ ps ps' : Array Value, o = .tbl ps ∧ G' a = some (.tbl ps') ∧ (TriplesOk ps.toList → TriplesOk ps'.toList)
theorem Ext.refl (G : Hp) : Ext G G := fun _ _ h => .inl h
theorem Ext.trans {G G1 G2 : Hp} (a : Ext G G1) (b : Ext G1 G2) : Ext G G2 := fun p o h => by
  rcases a p o h with h1 | ⟨ps, ps1, e, h1, t1⟩
  · exact b p o h1
  · rcases b p _ h1 with h2 | ⟨ps2, ps3, e2, h2, t2⟩
    · exact .inr ⟨ps, ps1, e, h2, t1⟩
    · cases e2
      exact .inr ⟨ps, ps3, e, h2, fun t => t2 (t1 t)⟩
theorem Ext.of_ex {G G' : Hp} (h : ∀ a o, G a = some o → G' a = some o) : Ext G G' := fun a o e => .inl (h a o e)
theorem Ext.at {G G' : Hp} (e : Ext G G') {a : Addr} {o : HO} (h : G a = some o) (n : ∀ ps, o ≠ .tbl ps) : G' a = some o := by
  rcases e a o h with h1 | ⟨ps, _, e2, _, _⟩
  · exact h1
  · exact absurd e2 (n ps)
theorem Ext.rd {G G' : Hp} (e : Ext G G') {a : Addr} {o : HO} (h : Rd G a o) (n : ∀ ps, o ≠ .tbl ps) : Rd G' a o := by
  rcases h with h | ⟨ob, h⟩
  · exact .inl (e.at h n)
  · exact .inr ⟨ob, e.at h fun ps z => by cases z⟩
theorem Ext.sql {K : PySem.W.Frag} {G G' : Hp} (e : Ext G G') {a : Addr} {xs : List V} (h : SqL K G a xs) : SqL K G' a xs := by
  rcases h with h | h
  · exact .inl (e.rd h fun ps z => by cases z)
  · exact .inr h
theorem Ext.sqt {K : PySem.W.Frag} {G G' : Hp} (e : Ext G G') {a : Addr} {xs : List V} (h : SqT K G a xs) : SqT K G' a xs := by
  rcases h with h | h
  · exact .inl (e.rd h fun ps z => by cases z)
  · exact .inr h

/-- a view: the heap of what does not change, where the cells stand, how many there have been -/
structure Vw where
  G : Hp
  ρ : Nat → Addr
  n : Nat
def Vw.le (v v' : Vw) : Prop := Ext v.G v'.G ∧ (∀ k, k < v.n → v'.ρ k = v.ρ k) ∧ v.n ≤ v'.n
theorem Vw.le.refl (v : Vw) : v.le v := ⟨Ext.refl _, fun _ _ => rfl, Nat.le_refl _⟩
theorem Vw.le.trans {a b c : Vw} (h : a.le b) (g : b.le c) : a.le c :=
  ⟨h.1.trans g.1, fun k hk => (g.2.1 k (Nat.lt_of_lt_of_le hk h.2.2)).trans (h.2.1 k hk), Nat.le_trans h.2.2 g.2.2⟩

/-! ### a value stands for a datum -/
mutual
def Rep (K : PySem.W.Frag) (w : Vw) : D → V → Prop
  | .non, v => v = .non
  | .bl b, v => v = .bl b
  | .int i, v => v = .int i
  | .str s, v => v = .str s
  | .tup ds, v => ∃ a xs, v = .ref a ∧ SqT K w.G a xs ∧ Reps K w ds xs
  | .ty n, v => v = .ty n
  | .lst ds, v => ∃ a xs, v = .ref a ∧ w.G a = some (.lst xs) ∧ Reps K w ds xs
  | .scr ds, v => ∃ a xs, v = .ref a ∧ SqL K w.G a xs ∧ Reps K w ds xs
  | .obj k, v => k < w.n ∧ v = .ref (w.ρ k)
def Reps (K : PySem.W.Frag) (w : Vw) : List D → List V → Prop
  | [], xs => xs = []
  | d :: ds, xs => ∃ x r, xs = x :: r ∧ Rep K w d x ∧ Reps K w ds r
end
def RepP {κ : Type} (K : PySem.W.Frag) (w : Vw) : List (κ × D) → List (κ × V) → Prop
  | [], xs => xs = []
  | (k, d) :: ds, xs => ∃ x r, xs = (k, x) :: r ∧ Rep K w d x ∧ RepP K w ds r
section
variable {K : PySem.W.Frag} {w w' : Vw}
mutual
theorem Rep.mono (l : w.le w') : ∀ {d : D} {v : V}, Rep K w d v → Rep K w' d v
  | .non, _, h => h
  | .bl _, _, h => h
  | .int _, _, h => h
  | .str _, _, h => h
  | .tup _, _, ⟨a, xs, e, s, r⟩ => ⟨a, xs, e, l.1.sqt s, Reps.mono l r⟩
  | .ty _, _, h => h
  | .lst _, _, ⟨a, xs, e, s, r⟩ => ⟨a, xs, e, l.1.at s (fun _ z => by cases z), Reps.mono l r⟩
  | .scr _, _, ⟨a, xs, e, s, r⟩ => ⟨a, xs, e, l.1.sql s, Reps.mono l r⟩
  | .obj k, _, ⟨h, e⟩ => ⟨Nat.lt_of_lt_of_le h l.2.2, by rw [l.2.1 k h]; exact e⟩
theorem Reps.mono (l : w.le w') : ∀ {ds : List D} {xs : List V}, Reps K w ds xs → Reps K w' ds xs
  | [], _, h => h
  | _ :: _, _, ⟨x, r, e, h, t⟩ => ⟨x, r, e, Rep.mono l h, Reps.mono l t⟩
end
theorem RepP.mono {κ : Type} (l : w.le w') : ∀ {ds : List (κ × D)} {xs : List (κ × V)}, RepP K w ds xs → RepP K w' ds xs
  | [], _, h => h
  | (_, _) :: _, _, ⟨x, r, e, h, t⟩ => ⟨x, r, e, h.mono l, RepP.mono l t⟩
theorem Reps.length : ∀ {ds : List D} {xs : List V}, Reps K w ds xs → xs.length = ds.length
  | [], _, h => by rw [show _ = [] from h]; rfl
  | _ :: _, _, ⟨x, r, e, _, t⟩ => by rw [e, List.length_cons, List.length_cons, Reps.length t]
theorem Reps.append : ∀ {ds es : List D} {xs ys : List V}, Reps K w ds xs → Reps K w es ys → Reps K w (ds ++ es) (xs ++ ys)
  | [], _, _, _, h, g => by rw [show _ = [] from h]; exact g
  | _ :: _, _, _, _, ⟨x, r, e, h, t⟩, g => ⟨x, r ++ _, by rw [e]; rfl, h, Reps.append t g⟩
theorem Reps.take : ∀ (n : Nat) {ds : List D} {xs : List V}, Reps K w ds xs → Reps K w (ds.take n) (xs.take n)
  | 0, _, _, _ => by rw [List.take_zero, List.take_zero]; rfl
  | _ + 1, [], _, h => by rw [show _ = [] from h]; rfl
  | n + 1, _ :: _, _, ⟨x, r, e, h, t⟩ => by rw [e]; exact ⟨x, r.take n, rfl, h, Reps.take n t⟩
theorem Reps.drop : ∀ (n : Nat) {ds : List D} {xs : List V}, Reps K w ds xs → Reps K w (ds.drop n) (xs.drop n)
  | 0, _, _, h => h
  | _ + 1, [], _, h => by rw [show _ = [] from h]; rfl
  | n + 1, _ :: _, _, ⟨x, r, e, h, t⟩ => by rw [e]; exact Reps.drop n t
theorem Reps.get : ∀ {ds : List D} {xs : List V} {i : Nat} {d : D}, Reps K w ds xs → ds[i]? = some d → ∃ v, xs[i]? = some v ∧ Rep K w d v
  | [], _, _, _, _, e => by simp at e
  | _ :: _, _, 0, _, ⟨x, r, e, h, t⟩, ed => by
    have ed' := Option.some.inj ed
    subst ed'
    exact ⟨x, by rw [e]; rfl, h⟩
  | _ :: _, _, i + 1, d, ⟨x, r, e, h, t⟩, ed => by
    obtain ⟨v, ev, rv⟩ := Reps.get (i := i) t ed
    exact ⟨v, by rw [e]; exact ev, rv⟩
theorem Reps.get' {ds : List D} {xs : List V} {i : Nat} {v : V} (h : Reps K w ds xs) (e : xs[i]? = some v) : ∃ d, ds[i]? = some d ∧ Rep K w d v := by
  have hi : i < ds.length := by
    rw [← h.length]
    exact (List.getElem?_eq_some_iff.mp e).1
  obtain ⟨u, eu, ru⟩ := h.get (List.getElem?_eq_getElem hi)
  rw [e] at eu
  cases eu
  exact ⟨_, List.getElem?_eq_getElem hi, ru⟩
theorem Reps.set : ∀ (i : Nat) {ds : List D} {xs : List V} {d : D} {v : V}, Reps K w ds xs → Rep K w d v → Reps K w (ds.set i d) (xs.set i v)
  | _, [], _, _, _, h, _ => by rw [show _ = [] from h]; rfl
  | 0, _ :: _, _, _, v, ⟨x, r, e, h, t⟩, g => by rw [e]; exact ⟨v, r, rfl, g, t⟩
  | i + 1, _ :: _, _, _, _, ⟨x, r, e, h, t⟩, g => by rw [e]; exact ⟨x, _, rfl, h, Reps.set i t g⟩
theorem Reps.one {d : D} {v : V} (h : Rep K w d v) : Reps K w [d] [v] := ⟨v, [], rfl, h, rfl⟩
theorem Reps.inv1 {d : D} {xs : List V} (h : Reps K w [d] xs) : ∃ x, xs = [x] ∧ Rep K w d x := by
  obtain ⟨x, r, e, h1, h2⟩ := h
  have e2 : r = [] := h2
  subst e2
  exact ⟨x, e, h1⟩
theorem Reps.inv2 {d e : D} {xs : List V} (h : Reps K w [d, e] xs) : ∃ x y, xs = [x, y] ∧ Rep K w d x ∧ Rep K w e y := by
  obtain ⟨x, r, e, h1, h2⟩ := h
  obtain ⟨y, e2, h3⟩ := Reps.inv1 h2
  subst e2
  exact ⟨x, y, e, h1, h3⟩
end

/-- the machine's state beside the heap; pv: what a running loop keeps for itself -/
structure Ss where
  ρ : Nat → Addr
  μ : Sto
  H : Hp
  pv : Hp
/-- a cell, or kept by a loop -/
def Ss.own (S : Ss) (a : Addr) : Prop := (∃ k c, S.μ.cell k = some c ∧ S.ρ k = a) ∨ ∃ o, S.pv a = some o
/-- what is no cell -/
noncomputable def hid (S : Ss) : Hp := fun a => @ite _ (S.own a) (Classical.propDecidable _) none (S.H a)
theorem hid_some {S : Ss} {a : Addr} {o : HO} : hid S a = some o ↔ S.H a = some o ∧ ¬ S.own a := by
  unfold hid
  by_cases h : S.own a
  · rw [if_pos h]
    exact Iff.intro (fun z => by cases z) (fun z => absurd h z.2)
  · rw [if_neg h]
    exact ⟨fun z => ⟨z, h⟩, fun z => z.1⟩
theorem hid_ex {S : Ss} {a : Addr} {o : HO} (h : hid S a = some o) : S.H a = some o := (hid_some.mp h).1
theorem hid_ext {S : Ss} : Ext (hid S) S.H := Ext.of_ex fun _ _ h => hid_ex h
noncomputable def Ss.vw (S : Ss) : Vw := ⟨hid S, S.ρ, S.μ.next⟩
def Ss.le (S S' : Ss) : Prop := S.vw.le S'.vw ∧ S'.pv = S.pv
theorem Ss.le.refl (S : Ss) : S.le S := ⟨Vw.le.refl _, rfl⟩
theorem Ss.le.trans {a b c : Ss} (h : a.le b) (g : b.le c) : a.le c := ⟨h.1.trans g.1, g.2.trans h.2⟩

def CellOk (W : Wd) (w : Vw) (H : Hp) (a : Addr) : Cell → Prop
  | .lst ds => ∃ xs, H a = some (.lst xs) ∧ Reps W.K w ds xs
  | .dct kvs => ∃ es, H a = some (.dK es) ∧ RepP W.K w kvs es
  | .ins c fs => ∃ dx es, H a = some (.ins (W.cls c) dx es) ∧ RepP W.K w fs es
theorem CellOk.mono {W : Wd} {w w' : Vw} {H H' : Hp} {a : Addr} {c : Cell} (h : CellOk W w H a c) (l : w.le w') (e : H' a = H a) : CellOk W w' H' a c := by
  cases c with
  | lst ds => obtain ⟨xs, e1, r⟩ := h; exact ⟨xs, e.trans e1, r.mono l⟩
  | dct kvs => obtain ⟨xs, e1, r⟩ := h; exact ⟨xs, e.trans e1, r.mono l⟩
  | ins c fs => obtain ⟨dx, xs, e1, r⟩ := h; exact ⟨dx, xs, e.trans e1, r.mono l⟩
theorem CellOk.some {W : Wd} {w : Vw} {H : Hp} {a : Addr} {c : Cell} (h : CellOk W w H a c) : ∃ o, H a = some o ∧ ∀ ps, o ≠ .tbl ps := by
  cases c with
  | lst ds => obtain ⟨xs, e1, r⟩ := h; exact ⟨_, e1, fun _ z => by cases z⟩
  | dct kvs => obtain ⟨xs, e1, r⟩ := h; exact ⟨_, e1, fun _ z => by cases z⟩
  | ins c fs => obtain ⟨dx, xs, e1, r⟩ := h; exact ⟨_, e1, fun _ z => by cases z⟩

structure Rl (W : Wd) (S : Ss) : Prop where
  inj : ∀ k j c d, S.μ.cell k = some c → S.μ.cell j = some d → S.ρ k = S.ρ j → k = j
  lt : ∀ k c, S.μ.cell k = some c → k < S.μ.next
  ok : ∀ k c, S.μ.cell k = some c → CellOk W S.vw S.H (S.ρ k) c
  tab : ∀ a ∈ W.T, GxR.TabG (hid S) a
  prv : ∀ a o, S.pv a = some o → S.H a = some o ∧ ∀ k c, S.μ.cell k = some c → S.ρ k ≠ a
/-- the names' data stand in the slots -/
def EnvR (W : Wd) (w : Vw) (δ : Env) (σ : L2.St) : Prop := δ.length = σ.length ∧ ∀ (i : Nat) (d : D), δ[i]? = some (some d) → ∃ v, σ[i]? = some (some v) ∧ Rep W.K w d v
theorem EnvR.mono {W : Wd} {w w' : Vw} {δ : Env} {σ : L2.St} (h : EnvR W w δ σ) (l : w.le w') : EnvR W w' δ σ :=
  ⟨h.1, fun i d e => let ⟨v, ev, r⟩ := h.2 i d e; ⟨v, ev, r.mono l⟩⟩
theorem EnvR.set {W : Wd} {w : Vw} {δ : Env} {σ : L2.St} {i : Nat} {d : D} {v : V} (h : EnvR W w δ σ) (r : Rep W.K w d v) : EnvR W w (δ.set i (some d)) (σ.set i (some v)) := by
  refine ⟨by rw [List.length_set, List.length_set, h.1], fun j e hj => ?_⟩
  by_cases hi : i = j
  · subst hi
    have hl : i < δ.length := by
      have := (List.getElem?_eq_some_iff.mp hj).1
      rw [List.length_set] at this
      exact this
    rw [List.getElem?_set_self hl] at hj
    cases hj
    exact ⟨v, List.getElem?_set_self (by rw [← h.1]; exact hl), r⟩
  · rw [List.getElem?_set_ne hi] at hj
    obtain ⟨u, eu, ru⟩ := h.2 j e hj
    exact ⟨u, by rw [List.getElem?_set_ne hi]; exact eu, ru⟩

section
variable {W : Wd} {S : Ss} {p : Addr} {o : HO}
theorem Rl.live (R : Rl W S) {k : Nat} {c : Cell} (h : S.μ.cell k = some c) : ∃ o, S.H (S.ρ k) = some o := let ⟨o, e, _⟩ := (R.ok k c h).some; ⟨o, e⟩
theorem Rl.tabG (R : Rl W S) {a : Addr} (h : a ∈ W.T) : GxR.TabG S.H a := by
  obtain ⟨ps, e, t⟩ := R.tab a h
  exact ⟨ps, hid_ex e, t⟩
theorem tab_ext {G G' : Hp} (e : Ext G G') {a : Addr} (h : GxR.TabG G a) : GxR.TabG G' a := by
  obtain ⟨ps, h1, t⟩ := h
  rcases e a _ h1 with h2 | ⟨qs, qs', e2, h2, t2⟩
  · exact ⟨ps, h2, t⟩
  · cases e2
    exact ⟨qs', h2, t2 t⟩
theorem Rl.owned (R : Rl W S) {a : Addr} (h : S.own a) : ∃ o, S.H a = some o := by
  rcases h with ⟨k, c, h, e⟩ | ⟨o, h⟩
  · obtain ⟨o, e2⟩ := R.live h
    exact ⟨o, by rw [← e]; exact e2⟩
  · exact ⟨o, (R.prv a o h).1⟩
/-- a new thing that is no cell -/
theorem Rl.fresh (R : Rl W S) (hp : S.H p = none) : Ss.le S { S with H := upd S.H p o } ∧ Rl W { S with H := upd S.H p o } ∧ hid { S with H := upd S.H p o } p = some o := by
  have ne : ∀ {a}, S.own a → a ≠ p := fun {a} h z => by
    obtain ⟨u, e⟩ := R.owned h
    rw [z, hp] at e
    cases e
  have l : Ss.le S { S with H := upd S.H p o } := ⟨⟨Ext.of_ex fun a u h => by
    have h : hid S a = some u := h
    obtain ⟨h1, h2⟩ := hid_some.mp h
    exact hid_some.mpr ⟨(upd_ne (ne_of_none h1 hp)).trans h1, h2⟩, fun _ _ => rfl, Nat.le_refl _⟩, rfl⟩
  exact ⟨l, ⟨R.inj, R.lt, fun k c h => (R.ok k c h).mono l.1 (upd_ne (ne (.inl ⟨k, c, h, rfl⟩))), fun a ha => tab_ext l.1.1 (R.tab a ha), fun a u h => ⟨(upd_ne (ne (.inr ⟨u, h⟩))).trans (R.prv a u h).1, (R.prv a u h).2⟩⟩,
    hid_some.mpr ⟨upd_same, fun z => ne z rfl⟩⟩
/-- the same hidden things, the rest unchanged -/
theorem hid_same {S' : Ss} (h1 : ∀ a, S'.own a ↔ S.own a) (h2 : ∀ a, ¬ S.own a → S'.H a = S.H a) : hid S' = hid S := by
  funext a
  unfold hid
  by_cases h : S.own a
  · rw [if_pos h, if_pos ((h1 a).mpr h)]
  · rw [if_neg h, if_neg (fun z => h ((h1 a).mp z))]
    exact h2 a h
/-- a cell changed -/
theorem own_put {k : Nat} {c c' : Cell} {H' : Hp} (h : S.μ.cell k = some c) (a : Addr) : Ss.own { S with μ := S.μ.put k c', H := H' } a ↔ S.own a := by
  unfold Ss.own
  constructor
  · rintro (⟨j, d, h1, h2⟩ | h1)
    · by_cases hj : j = k
      · exact .inl ⟨k, c, h, by rw [← hj]; exact h2⟩
      · exact .inl ⟨j, d, by rw [← Sto.put_ne hj]; exact h1, h2⟩
    · exact .inr h1
  · rintro (⟨j, d, h1, h2⟩ | h1)
    · by_cases hj : j = k
      · exact .inl ⟨k, c', Sto.put_same, by rw [← hj]; exact h2⟩
      · exact .inl ⟨j, d, by rw [← h1]; exact Sto.put_ne hj, h2⟩
    · exact .inr h1
theorem Rl.put {k : Nat} {c c' : Cell} (R : Rl W S) (h : S.μ.cell k = some c) (n : CellOk W S.vw (upd S.H (S.ρ k) o) (S.ρ k) c') :
    Ss.le S { S with μ := S.μ.put k c', H := upd S.H (S.ρ k) o } ∧ Rl W { S with μ := S.μ.put k c', H := upd S.H (S.ρ k) o } := by
  have eh : hid { S with μ := S.μ.put k c', H := upd S.H (S.ρ k) o } = hid S := hid_same (own_put h) fun a ha => upd_ne fun z => ha (.inl ⟨k, c, h, z.symm⟩)
  have ev : Ss.vw { S with μ := S.μ.put k c', H := upd S.H (S.ρ k) o } = S.vw := by
    unfold Ss.vw
    rw [eh]
    rfl
  refine ⟨⟨by rw [ev]; exact Vw.le.refl _, rfl⟩, ?_⟩
  have old : ∀ {j d}, (S.μ.put k c').cell j = some d → ∃ d', S.μ.cell j = some d' := fun {j d} e => by
    by_cases hj : j = k
    · exact ⟨c, by rw [hj]; exact h⟩
    · rw [Sto.put_ne hj] at e
      exact ⟨d, e⟩
  refine ⟨fun i j d e h1 h2 h3 => ?_, fun j d e => ?_, fun j d e => ?_, fun a ha => ?_, fun a u e => ⟨?_, fun j d e2 => ?_⟩⟩
  · obtain ⟨d', h1'⟩ := old h1
    obtain ⟨e', h2'⟩ := old h2
    exact R.inj i j d' e' h1' h2' h3
  · obtain ⟨d', h1'⟩ := old e
    exact R.lt j d' h1'
  · rw [ev]
    by_cases hj : j = k
    · subst hj
      rw [show (S.μ.put j c').cell j = _ from Sto.put_same] at e
      cases e
      exact n
    · rw [show (S.μ.put k c').cell j = _ from Sto.put_ne hj] at e
      refine (R.ok j d e).mono (Vw.le.refl _) (upd_ne fun z => hj ?_)
      exact R.inj j k d c e h z
  · rw [eh]
    exact R.tab a ha
  · exact (upd_ne fun z => (R.prv a u e).2 k c h z.symm).trans (R.prv a u e).1
  · obtain ⟨d', e3⟩ := old e2
    exact (R.prv a u e).2 j d' e3
/-- a new cell -/
def newρ (ρ : Nat → Addr) (n : Nat) (p : Addr) : Nat → Addr := fun k => if k = n then p else ρ k
theorem newρ_same {ρ : Nat → Addr} {n : Nat} {p : Addr} : newρ ρ n p n = p := if_pos rfl
theorem newρ_ne {ρ : Nat → Addr} {n j : Nat} {p : Addr} (h : j ≠ n) : newρ ρ n p j = ρ j := if_neg h
theorem Rl.new {c : Cell} {H' : Hp} (R : Rl W S) (hp : S.H p = none) (hH : ∀ a, a ≠ p → S.H a ≠ none → H' a = S.H a) (hx : Ext (hid S) H') (n : CellOk W ⟨hid S, newρ S.ρ S.μ.next p, S.μ.next + 1⟩ H' p c) :
    Ss.le S { S with ρ := newρ S.ρ S.μ.next p, μ := S.μ.new c, H := H' } ∧ Rl W { S with ρ := newρ S.ρ S.μ.next p, μ := S.μ.new c, H := H' } := by
  have lt : ∀ {j d}, S.μ.cell j = some d → j ≠ S.μ.next := fun {j d} e => Nat.ne_of_lt (R.lt j d e)
  have nep : ∀ {a}, S.own a → a ≠ p := fun {a} h z => by
    obtain ⟨u, e2⟩ := R.owned h
    rw [z, hp] at e2
    cases e2
  have cs : ∀ {j d}, (S.μ.new c).cell j = some d → (j = S.μ.next ∧ d = c) ∨ (j ≠ S.μ.next ∧ S.μ.cell j = some d) := fun {j d} e => by
    by_cases hj : j = S.μ.next
    · subst hj
      rw [Sto.new_same] at e
      cases e
      exact .inl ⟨rfl, rfl⟩
    · rw [Sto.new_ne hj] at e
      exact .inr ⟨hj, e⟩
  have l : Ss.le S { S with ρ := newρ S.ρ S.μ.next p, μ := S.μ.new c, H := H' } := by
    refine ⟨⟨fun a u h => ?_, fun k hk => newρ_ne (Nat.ne_of_lt hk), Nat.le_succ _⟩, rfl⟩
    have h : hid S a = some u := h
    have no : ¬ Ss.own { S with ρ := newρ S.ρ S.μ.next p, μ := S.μ.new c, H := H' } a := by
      rintro (⟨j, d, h1, h2⟩ | h1)
      · rcases cs h1 with ⟨e1, _⟩ | ⟨n1, e1⟩
        · have h2 : newρ S.ρ S.μ.next p j = a := h2
          rw [e1, newρ_same] at h2
          have := hid_ex h
          rw [← h2, hp] at this
          cases this
        · have h2 : newρ S.ρ S.μ.next p j = a := h2
          rw [newρ_ne n1] at h2
          exact (hid_some.mp h).2 (.inl ⟨j, d, e1, h2⟩)
      · exact (hid_some.mp h).2 (.inr h1)
    rcases hx a u h with h3 | ⟨ps, ps', e1, h3, t⟩
    · exact .inl (hid_some.mpr ⟨h3, no⟩)
    · exact .inr ⟨ps, ps', e1, hid_some.mpr ⟨h3, no⟩, t⟩
  have lv : Vw.le ⟨hid S, newρ S.ρ S.μ.next p, S.μ.next + 1⟩ (Ss.vw { S with ρ := newρ S.ρ S.μ.next p, μ := S.μ.new c, H := H' }) := ⟨l.1.1, fun _ _ => rfl, Nat.le_refl _⟩
  refine ⟨l, fun i j d e h1 h2 h3 => ?_, fun j d e => ?_, fun j d e => ?_, fun a ha => tab_ext l.1.1 (R.tab a ha), fun a u e => ⟨?_, fun j d e2 => ?_⟩⟩
  · have h3 : newρ S.ρ S.μ.next p i = newρ S.ρ S.μ.next p j := h3
    rcases cs h1 with ⟨e1, _⟩ | ⟨n1, e1⟩ <;> rcases cs h2 with ⟨e2, _⟩ | ⟨n2, e2⟩
    · rw [e1, e2]
    · rw [e1, newρ_same, newρ_ne n2] at h3
      exact absurd h3.symm (nep (.inl ⟨j, e, e2, rfl⟩))
    · rw [e2, newρ_same, newρ_ne n1] at h3
      exact absurd h3 (nep (.inl ⟨i, d, e1, rfl⟩))
    · rw [newρ_ne n1, newρ_ne n2] at h3
      exact R.inj i j d e e1 e2 h3
  · rcases cs e with ⟨e1, _⟩ | ⟨n1, e1⟩
    · rw [e1]
      exact Nat.lt_succ_self _
    · exact Nat.lt_succ_of_lt (R.lt j d e1)
  · rcases cs e with ⟨e1, e2⟩ | ⟨n1, e1⟩
    · subst e1 e2
      show CellOk W _ _ (newρ S.ρ S.μ.next p S.μ.next) d
      rw [newρ_same]
      exact n.mono lv rfl
    · show CellOk W _ _ (newρ S.ρ S.μ.next p j) d
      rw [newρ_ne n1]
      obtain ⟨u, eu⟩ := R.live e1
      exact (R.ok j d e1).mono l.1 (hH _ (nep (.inl ⟨j, d, e1, rfl⟩)) (by rw [eu]; exact fun z => by cases z))
  · obtain ⟨h1, h2⟩ := R.prv a u e
    exact (hH a (nep (.inr ⟨u, e⟩)) (by rw [h1]; exact fun z => by cases z)).trans h1
  · rcases cs e2 with ⟨e1, _⟩ | ⟨n1, e1⟩
    · show newρ S.ρ S.μ.next p j ≠ a
      rw [e1, newρ_same]
      exact fun z => nep (.inr ⟨u, e⟩) z.symm
    · show newρ S.ρ S.μ.next p j ≠ a
      rw [newρ_ne n1]
      exact (R.prv a u e).2 j d e1
/-- a cell given up: what it holds stands for ever (or is forgotten) -/
theorem Rl.del {k : Nat} (R : Rl W S) : Ss.le S { S with μ := S.μ.del k } ∧ Rl W { S with μ := S.μ.del k } := by
  have old : ∀ {j d}, (S.μ.del k).cell j = some d → S.μ.cell j = some d ∧ j ≠ k := fun {j d} e => by
    by_cases hj : j = k
    · subst hj
      rw [Sto.del_same] at e
      cases e
    · rw [Sto.del_ne hj] at e
      exact ⟨e, hj⟩
  have l : Ss.le S { S with μ := S.μ.del k } := ⟨⟨Ext.of_ex fun a u h => by
    have h : hid S a = some u := h
    obtain ⟨h1, h2⟩ := hid_some.mp h
    refine hid_some.mpr ⟨h1, ?_⟩
    rintro (⟨j, d, e, h3⟩ | h3)
    · exact h2 (.inl ⟨j, d, (old e).1, h3⟩)
    · exact h2 (.inr h3), fun _ _ => rfl, Nat.le_refl _⟩, rfl⟩
  exact ⟨l, fun i j d e h1 h2 h3 => R.inj i j d e (old h1).1 (old h2).1 h3, fun j d e => R.lt j d (old e).1, fun j d e => (R.ok j d (old e).1).mono l.1 rfl, fun a ha => tab_ext l.1.1 (R.tab a ha), fun a u e => ⟨(R.prv a u e).1, fun j d e2 => (R.prv a u e).2 j d (old e2).1⟩⟩
/-- μ' : some of μ's cells, as they are -/
def Sto.sub (μ' μ : Sto) : Prop := μ'.next = μ.next ∧ ∀ k c, μ'.cell k = some c → μ.cell k = some c
theorem Rl.sub {μ' : Sto} (R : Rl W S) (h : μ'.sub S.μ) : Ss.le S { S with μ := μ' } ∧ Rl W { S with μ := μ' } := by
  have l : Ss.le S { S with μ := μ' } := ⟨⟨Ext.of_ex fun a u e => by
    have e : hid S a = some u := e
    obtain ⟨h1, h2⟩ := hid_some.mp e
    refine hid_some.mpr ⟨h1, ?_⟩
    rintro (⟨j, d, e, h3⟩ | h3)
    · exact h2 (.inl ⟨j, d, h.2 j d e, h3⟩)
    · exact h2 (.inr h3), fun _ _ => rfl, Nat.le_of_eq h.1.symm⟩, rfl⟩
  exact ⟨l, fun i j d e h1 h2 h3 => R.inj i j d e (h.2 _ _ h1) (h.2 _ _ h2) h3, fun j d e => by show j < μ'.next; rw [h.1]; exact R.lt j d (h.2 _ _ e), fun j d e => (R.ok j d (h.2 _ _ e)).mono l.1 rfl, fun a ha => tab_ext l.1.1 (R.tab a ha), fun a u e => ⟨(R.prv a u e).1, fun j d e2 => (R.prv a u e).2 j d (h.2 _ _ e2)⟩⟩
/-- what a loop keeps for itself: laid, written, given out -/
theorem own_pv {a : Addr} {u : HO} {H' : Hp} (b : Addr) : Ss.own { S with H := H', pv := upd S.pv a u } b ↔ (S.own b ∨ b = a) := by
  unfold Ss.own
  constructor
  · rintro (h | ⟨v, h⟩)
    · exact .inl (.inl h)
    · by_cases hb : b = a
      · exact .inr hb
      · have h : upd S.pv a u b = some v := h
        rw [upd_ne hb] at h
        exact .inl (.inr ⟨v, h⟩)
  · rintro ((h | ⟨v, h⟩) | h)
    · exact .inl h
    · by_cases hb : b = a
      · exact .inr ⟨u, by show upd S.pv a u b = _; rw [hb]; exact upd_same⟩
      · exact .inr ⟨v, by show upd S.pv a u b = _; rw [upd_ne hb]; exact h⟩
    · exact .inr ⟨u, by show upd S.pv a u b = _; rw [h]; exact upd_same⟩
theorem Rl.keep (R : Rl W S) (hp : S.H p = none) : S.vw.le (Ss.vw { S with H := upd S.H p o, pv := upd S.pv p o }) ∧ Rl W { S with H := upd S.H p o, pv := upd S.pv p o } := by
  have nep : ∀ {a}, S.own a → a ≠ p := fun {a} h z => by
    obtain ⟨u, e2⟩ := R.owned h
    rw [z, hp] at e2
    cases e2
  have l : S.vw.le (Ss.vw { S with H := upd S.H p o, pv := upd S.pv p o }) := ⟨Ext.of_ex fun a u h => by
    have h : hid S a = some u := h
    obtain ⟨h1, h2⟩ := hid_some.mp h
    have ha : a ≠ p := ne_of_none h1 hp
    refine hid_some.mpr ⟨(upd_ne ha).trans h1, fun z => ?_⟩
    rcases (own_pv a).mp z with z | z
    · exact h2 z
    · exact ha z, fun _ _ => rfl, Nat.le_refl _⟩
  refine ⟨l, R.inj, R.lt, fun k c h => (R.ok k c h).mono l (upd_ne (nep (.inl ⟨k, c, h, rfl⟩))), fun a ha => tab_ext l.1 (R.tab a ha), fun a u e => ?_⟩
  have e : upd S.pv p o a = some u := e
  by_cases ha : a = p
  · subst ha
    rw [upd_same] at e
    cases e
    exact ⟨upd_same, fun k c h => nep (.inl ⟨k, c, h, rfl⟩)⟩
  · rw [upd_ne ha] at e
    exact ⟨(upd_ne ha).trans (R.prv a u e).1, (R.prv a u e).2⟩
theorem Rl.rekeep {u : HO} (R : Rl W S) (hp : S.pv p = some u) : S.vw.le (Ss.vw { S with H := upd S.H p o, pv := upd S.pv p o }) ∧ Rl W { S with H := upd S.H p o, pv := upd S.pv p o } := by
  have eh : hid { S with H := upd S.H p o, pv := upd S.pv p o } = hid S := hid_same (fun a => by
    rw [own_pv a]
    exact ⟨fun z => z.elim id fun e => .inr ⟨u, by rw [e]; exact hp⟩, .inl⟩) fun a ha => upd_ne fun z => ha (.inr ⟨u, by rw [z]; exact hp⟩)
  have l : S.vw.le (Ss.vw { S with H := upd S.H p o, pv := upd S.pv p o }) := by
    unfold Ss.vw
    rw [eh]
    exact Vw.le.refl _
  refine ⟨l, R.inj, R.lt, fun k c h => (R.ok k c h).mono l (upd_ne ((R.prv p u hp).2 k c h)), fun a ha => by rw [eh]; exact R.tab a ha, fun a v e => ?_⟩
  have e : upd S.pv p o a = some v := e
  by_cases ha : a = p
  · subst ha
    rw [upd_same] at e
    cases e
    exact ⟨upd_same, (R.prv a u hp).2⟩
  · rw [upd_ne ha] at e
    exact ⟨(upd_ne ha).trans (R.prv a v e).1, (R.prv a v e).2⟩
/-- pv as it was before -/
theorem Rl.give {pv' : Hp} (R : Rl W S) (h : ∀ a o, pv' a = some o → S.pv a = some o) : S.vw.le (Ss.vw { S with pv := pv' }) ∧ Rl W { S with pv := pv' } := by
  have no : ∀ a, Ss.own { S with pv := pv' } a → S.own a := by
    rintro a (z | ⟨o, z⟩)
    · exact .inl z
    · exact .inr ⟨o, h a o z⟩
  have l : S.vw.le (Ss.vw { S with pv := pv' }) := ⟨Ext.of_ex fun a u e => by
    have e : hid S a = some u := e
    obtain ⟨h1, h2⟩ := hid_some.mp e
    exact hid_some.mpr ⟨h1, fun z => h2 (no a z)⟩, fun _ _ => rfl, Nat.le_refl _⟩
  exact ⟨l, R.inj, R.lt, fun k c e => (R.ok k c e).mono l rfl, fun a ha => tab_ext l.1 (R.tab a ha), fun a u e => R.prv a u (h a u e)⟩
end
end M
end

section
set_option Elab.async false
set_option linter.all false
set_option maxRecDepth 100000
set_option maxHeartbeats 4000000
/-! M: the terms of the machine and what they want. -/
namespace M
open PySem PySem.Spec PyProof.Rows L2

abbrev Post := D → Sto → Prop
abbrev XPost := Nat → Sto → Prop
abbrev Spec := List D → Sto → Post → XPost → Prop
structure Outs where
  nx : Env → Sto → Prop
  rt : Post
  bk : Env → Sto → Prop
  ct : Env → Sto → Prop
  xc : Nat → Env → Sto → Prop
abbrev IPost := List D → (Sto → Prop) → Sto → Prop
/-- how a piece of syntax falls apart -/
abbrev XF := List Str → Scope → Bool → Expr → Option (List Expr)
abbrev SF := List Str → Scope → Stmt → Option (List Expr)
abbrev EvE := Env → List D → Sto → Post → XPost → Prop
abbrev EvT := Env → List D → Sto → (Bool → Sto → Prop) → XPost → Prop
abbrev EvI := Env → List D → Sto → IPost → XPost → Prop
abbrev EvS := Env → List D → Sto → Outs → Prop

inductive IR where
  | nop
  | var (i : Nat) | con (d : D) | glb (x : Str) (d : D) | bty (n : String)
  | bin (o : Operator) (a b : IR) | neg (a : IR)
  | cmp (o : CmpOp) (a b : IR) | chn (o o' : CmpOp) (a b c : IR)
  | one (a : IR) | andV (a r : IR) | orV (a r : IR) | notV (a : IR) | ife (t a b : IR)
  | ix (a i : IR) | sl (a lo hi : IR)
  | tupC (as : IR) | lstC (as : IR) | lstM (as : IR)
  | nil | cons (a r : IR)
  | cal (x : Str) (sp : Spec) (as : IR)
  | bme (T id : String) (m : Str) (sp : Spec) (o as : IR)
  | cpr (own : List (Str × Nat)) (g it t e : IR)
  | frz (a : IR)
  -- any other expression: how it falls apart, what it does with its parts' data
  | nod (f : XF) (ev : EvE) (as : IR)
  -- tests
  | tV (a : IR) | tNot (t : IR) | tOne (t : IR) | tAnd (t r : IR) | tOr (t r : IR) | tnd (f : XF) (ev : EvT) (as : IR)
  -- what is walked
  | ind (f : XF) (ev : EvI) (as : IR) | itV (a : IR) | itR1 (a : IR) | itR2 (a b : IR)
  -- targets
  | gN (i : Nat) | gT (n : Nat) (gs : IR) | gSub (o i : IR)
  -- statements
  | asg (g e : IR) | asc (i : Nat) (e : IR) | exp (e : IR) | ret (e : IR) | ret0 | ifS (t a b : IR) | whl (t b : IR) | fr (g it b : IR) | brk | cnt | pas
  | sno (f : SF) (ev : EvS) (as : IR) | nev | seq (s r : IR)

/-- the items of a list, as data or as a cell -/
def asL (d : D) (μ : Sto) : Option (List D) := match d with
  | .lst ds => some ds
  | .scr ds => some ds
  | .obj k => match μ.cell k with
    | some (.lst ds) => some ds
    | _ => none
  | _ => none
/-- .. that is no locked one -/
def asLM (d : D) (μ : Sto) : Option (List D) := match d with
  | .lst ds => some ds
  | .obj k => match μ.cell k with
    | some (.lst ds) => some ds
    | _ => none
  | _ => none
def asSeq (d : D) (μ : Sto) : Option (List D) := match d with
  | .tup ds => some ds
  | d => asL d μ
def asK (d : D) (μ : Sto) : Option (List (Key × D)) := match d with
  | .obj k => match μ.cell k with
    | some (.dct ds) => some ds
    | _ => none
  | _ => none
mutual
/-- without cells, as the library's data -/
def pyOf : D → PyData
  | .non => .none
  | .bl b => .bool b
  | .int i => .int i
  | .str s => .str s
  | .tup ds => .tuple (pyOfs ds)
  | .lst ds => .list (pyOfs ds)
  | .ty _ => .none
  | .scr _ => .none
  | .obj _ => .none
def pyOfs : List D → List PyData
  | [] => []
  | d :: ds => pyOf d :: pyOfs ds
end
mutual
def pureD : D → Bool
  | .tup ds => pureDs ds
  | .lst ds => pureDs ds
  | .obj _ => false
  | .ty _ => false
  | .scr _ => false
  | _ => true
def pureDs : List D → Bool
  | [] => true
  | d :: ds => pureD d && pureDs ds
end
/-- a list cell at the top read as the list that it is -/
def drf (d : D) (μ : Sto) : D := match asLM d μ with
  | some ds => .lst ds
  | none => d
/-- data that == looks at: no cell within, not too deep -/
def eqN : Nat → D → Bool
  | _, .non | _, .bl _ | _, .int _ | _, .str _ => true
  | n + 1, .tup ds => ds.all (eqN n)
  | n + 1, .lst ds => ds.all (eqN n)
  | _, _ => false
def eqOk (d : D) : Bool := eqN 12 d
def deq (x y : D) : Bool := PyData.eqv (pyOf x) (pyOf y)
def flatD : D → Bool
  | .non | .bl _ | .int _ | .str _ => true
  | _ => false
def strIn (i j : Str) : Bool := match i.cps.toList with
  | [c] => decide (c ∈ j.cps.toList)
  | _ => !(Builtin.Str.occurrences j i 0 j.length 1).isEmpty
def keyOf : D → Option Key
  | .int i => some (.inl i)
  | .str s => some (.inr s)
  | _ => none

def repS (s : Str) (n : Nat) : Str := ⟨(List.replicate n s.cps).foldl (· ++ ·) #[]⟩
def binD (o : Operator) (x y : D) (μ : Sto) (Q : Post) : Prop := match o, x, y with
  | .Add, .int i, .int j => Q (.int (i + j)) μ
  | .Sub, .int i, .int j => Q (.int (i - j)) μ
  | .Mult, .int i, .int j => CMul i j ∧ Q (.int (i * j)) μ
  | .Mult, .str s, .int n => (0 ≤ n ∧ n < 2 ^ 31 ∧ s.length * n.toNat ≤ sizeLine) ∧ Q (.str (repS s n.toNat)) μ
  | .FloorDiv, .int i, .int j => CDivN i j ∧ Q (.int (i.fdiv j)) μ
  | .Mod, .int i, .int j => j ≠ 0 ∧ Q (.int (i.fmod j)) μ
  | .Pow, .int i, .int j => CPow i j ∧ Q (.int (i ^ j.toNat)) μ
  | .Add, .str i, .str j => i.length + j.length ≤ sizeLine ∧ Q (.str (i ++ j)) μ
  | .Add, x, y => match asLM x μ, asLM y μ with
    | some xs, some ys => xs.length + ys.length ≤ sizeLine ∧ Q (.lst (xs ++ ys)) μ
    | _, _ => False
  | _, _, _ => False

def isNonD : D → Bool
  | .non => true
  | _ => false
def cmpD (o : CmpOp) (x y : D) (μ : Sto) (Q : Bool → Prop) : Prop := match o, x, y with
  | .Eq, x, y => eqOk (drf x μ) = true ∧ eqOk (drf y μ) = true ∧ Q (deq (drf x μ) (drf y μ))
  | .NotEq, x, y => eqOk (drf x μ) = true ∧ eqOk (drf y μ) = true ∧ Q (!deq (drf x μ) (drf y μ))
  | .Lt, .int i, .int j => Q (decide (i < j))
  | .LtE, .int i, .int j => Q (decide (i ≤ j))
  | .Gt, .int i, .int j => Q (decide (j < i))
  | .GtE, .int i, .int j => Q (decide (j ≤ i))
  | .Lt, .str i, .str j => Q (decide (i.cps.toList < j.cps.toList))
  | .In, .str i, .str j => Q (strIn i j)
  | .NotIn, .str i, .str j => Q (!strIn i j)
  | .In, x, .tup ys => eqOk x = true ∧ eqOk (.tup ys) = true ∧ Q (ys.any fun y => deq y x)
  | .NotIn, x, .tup ys => eqOk x = true ∧ eqOk (.tup ys) = true ∧ Q (!ys.any fun y => deq y x)
  | .In, x, y => match asLM y μ with
    | some ys => eqOk x = true ∧ eqOk (.lst ys) = true ∧ Q (ys.any fun y => deq y x)
    | none => False
  | .NotIn, x, y => match asLM y μ with
    | some ys => eqOk x = true ∧ eqOk (.lst ys) = true ∧ Q (!ys.any fun y => deq y x)
    | none => False
  | .Is, x, .non => Q (isNonD x)
  | .IsNot, x, .non => Q (!isNonD x)
  | _, _, _ => False

def ixD (x y : D) (μ : Sto) (Q : Post) : Prop := match x, y with
  | .str s, .int i => s.length ≤ sizeLine ∧ match atI s.cps.toList i with
    | some c => Q (.str ⟨#[c]⟩) μ
    | none => False
  | x, .int i => match asSeq x μ with
    | some xs => match atI xs i with
      | some d => Q d μ
      | none => False
    | none => False
  | _, _ => False
def cutD {α : Type} (xs : List α) (lo hi : Option Int) : List α := (xs.drop (HT.sIx xs.length 0 lo)).take (HT.sIx xs.length xs.length hi - HT.sIx xs.length 0 lo)
def slD (x : D) (lo hi : Option Int) (μ : Sto) (Q : Post) : Prop := match x with
  | .str s => s.length ≤ sizeLine ∧ Q (.str ⟨(cutD s.cps.toList lo hi).toArray⟩) μ
  | x => match asL x μ with
    | some xs => Q (.lst (cutD xs lo hi)) μ
    | none => False
def truD (x : D) (μ : Sto) (Q : Bool → Prop) : Prop := match x with
  | .non => Q false
  | .bl b => Q b
  | .int i => Q (i != 0)
  | .str s => s.length ≤ sizeLine ∧ Q ((s.length : Int) != 0)
  | x => match asSeq x μ with
    | some xs => Q (!xs.isEmpty)
    | none => match asK x μ with
      | some kvs => Q (!kvs.isEmpty)
      | none => False

/-- the rest of the items, one turn each; gd: what is walked stands still -/
def loopF (turn : D → Env → Sto → (Env → Sto → Prop) → Prop) (gd : Sto → Prop) (fin : Env → Sto → Prop) : List D → Env → Sto → Prop
  | [], δ, μ => gd μ ∧ fin δ μ
  | x :: r, δ, μ => gd μ ∧ turn x δ μ fun δ' μ' => loopF turn gd fin r δ' μ'
def loopW (tst : Env → Sto → (Bool → Sto → Prop) → Prop) (turn : Env → Sto → (Env → Sto → Prop) → Prop) (fin : Env → Sto → Prop) : Nat → Env → Sto → Prop
  | 0, _, _ => False
  | n + 1, δ, μ => tst δ μ fun b μ' => if b = true then turn δ μ' fun δ' μ'' => loopW tst turn fin n δ' μ'' else fin δ μ'
def loopC (turn : D → Sto → (Option D → Sto → Prop) → Prop) (gd : Sto → Prop) (fin : List D → Sto → Prop) : List D → List D → Sto → Prop
  | [], acc, μ => gd μ ∧ fin acc μ
  | x :: r, acc, μ => gd μ ∧ turn x μ fun o μ' => match o with
    | some y => acc.length < sizeLine ∧ loopC turn gd fin r (acc ++ [y]) μ'
    | none => loopC turn gd fin r acc μ'

def itD (d : D) (μ : Sto) (K : IPost) : Prop := match d with
  | .tup ds => K ds (fun _ => True) μ
  | .lst ds => K ds (fun _ => True) μ
  | .scr ds => K ds (fun _ => True) μ
  | .str s => K (s.cps.toList.map fun c => .str ⟨#[c]⟩) (fun _ => True) μ
  | .obj k => match μ.cell k with
    | some (.lst ds) => K ds (fun μ' => μ'.cell k = some (.lst ds)) μ
    | _ => False
  | _ => False
def intsD (lo : Int) (n : Nat) : List D := (List.range n).map fun (k : Nat) => D.int (lo + k)
def wipeE (δ : Env) : List Nat → Env
  | [] => δ
  | v :: vs => (wipeE δ vs).set v none

/-- a part of a slice -/
def wpOpt (c : IR) (e : Sto → Post → Prop) (μ : Sto) (K : Option Int → Sto → Prop) : Prop := match c with
  | .nop => K none μ
  | _ => e μ fun d μ' => match d with
    | .int i => K (some i) μ'
    | _ => False

/-- the receiver's type, for a built-in's method -/
def tyD (T : String) (d : D) (μ : Sto) : Bool := match d with
  | .str _ => T == "str"
  | .lst _ | .scr _ => T == "list"
  | .obj k => match μ.cell k with
    | some (.lst _) => T == "list"
    | some (.dct _) => T == "dict"
    | _ => false
  | _ => false

mutual
def wpE : IR → Env → Sto → Post → XPost → Prop
  | .var i, δ, μ, Q, _ => match δ[i]? with
    | some (some d) => Q d μ
    | _ => False
  | .con d, _, μ, Q, _ => Q d μ
  | .glb _ d, _, μ, Q, _ => Q d μ
  | .bty n, _, μ, Q, _ => Q (.ty n) μ
  | .bin o a b, δ, μ, Q, X => wpE a δ μ (fun x μ1 => wpE b δ μ1 (fun y μ2 => binD o x y μ2 Q) X) X
  | .neg a, δ, μ, Q, X => wpE a δ μ (fun x μ1 => match x with
    | .int i => Q (.int (-i)) μ1
    | _ => False) X
  | .cmp o a b, δ, μ, Q, X => wpE a δ μ (fun x μ1 => wpE b δ μ1 (fun y μ2 => cmpD o x y μ2 fun r => Q (.bl r) μ2) X) X
  | .chn o o' a b c, δ, μ, Q, X => wpE a δ μ (fun x μ1 => wpE b δ μ1 (fun y μ2 => cmpD o x y μ2 fun r => if r = true then wpE c δ μ2 (fun z μ3 => cmpD o' y z μ3 fun r' => Q (.bl r') μ3) X else Q (.bl false) μ2) X) X
  | .one a, δ, μ, Q, X => wpE a δ μ Q X
  | .andV a r, δ, μ, Q, X => wpE a δ μ (fun x μ1 => match x with
    | .bl c => if c = true then wpE r δ μ1 Q X else Q (.bl false) μ1
    | _ => False) X
  | .orV a r, δ, μ, Q, X => wpE a δ μ (fun x μ1 => match x with
    | .bl c => if c = true then Q (.bl true) μ1 else wpE r δ μ1 Q X
    | _ => False) X
  | .notV a, δ, μ, Q, X => wpE a δ μ (fun x μ1 => match x with
    | .bl c => Q (.bl (!c)) μ1
    | _ => False) X
  | .ife t a b, δ, μ, Q, X => wpT t δ μ (fun c μ1 => if c = true then wpE a δ μ1 Q X else wpE b δ μ1 Q X) X
  | .ix a i, δ, μ, Q, X => wpE a δ μ (fun x μ1 => wpE i δ μ1 (fun y μ2 => ixD x y μ2 Q) X) X
  | .sl a lo hi, δ, μ, Q, X => wpE a δ μ (fun x μ1 => wpOpt lo (fun μ K => wpE lo δ μ K X) μ1 fun l μ2 => wpOpt hi (fun μ K => wpE hi δ μ K X) μ2 fun h μ3 => slD x l h μ3 Q) X
  | .tupC as, δ, μ, Q, X => wpA as δ μ (fun ds μ1 => ds.length ≤ sizeLine ∧ Q (.tup ds) μ1) X
  | .lstC as, δ, μ, Q, X => wpA as δ μ (fun ds μ1 => ds.length ≤ sizeLine ∧ Q (.lst ds) μ1) X
  | .lstM as, δ, μ, Q, X => wpA as δ μ (fun ds μ1 => ds.length ≤ sizeLine ∧ Q (.obj μ1.next) (μ1.new (.lst ds))) X
  | .cal _ sp as, δ, μ, Q, X => wpA as δ μ (fun ds μ1 => sp ds μ1 Q X) X
  | .bme T _ _ sp o as, δ, μ, Q, X => wpE o δ μ (fun d μ1 => tyD T d μ1 = true ∧ wpA as δ μ1 (fun ds μ2 => sp (d :: ds) μ2 Q (fun _ _ => False)) X) X
  | .cpr own g it t e, δ, μ, Q, X => wpI it δ μ (fun xs gd μ1 => loopC (fun x μ N => wpG g x (wipeE δ (own.map (·.2))) μ fun δ2 μ2 => wpT t δ2 μ2 (fun b μ3 => if b = true then wpE e δ2 μ3 (fun y μ4 => N (some y) μ4) (fun _ _ => False) else N none μ3) (fun _ _ => False)) gd (fun ys μ2 => Q (.lst ys) μ2) xs [] μ1) X
  | .nod _ ev as, δ, μ, Q, X => wpA as δ μ (fun ds μ1 => ev δ ds μ1 Q X) X
  | .frz a, δ, μ, Q, X => wpE a δ μ (fun x μ1 => match x with
    | .obj k => match μ1.cell k with
      | some (.lst ds) => Q (.lst ds) (μ1.del k)
      | _ => False
    | _ => False) X
  | _, _, _, _, _ => False
def wpA : IR → Env → Sto → (List D → Sto → Prop) → XPost → Prop
  | .nil, _, μ, Q, _ => Q [] μ
  | .cons a r, δ, μ, Q, X => wpE a δ μ (fun x μ1 => wpA r δ μ1 (fun xs μ2 => Q (x :: xs) μ2) X) X
  | _, _, _, _, _ => False
def wpT : IR → Env → Sto → (Bool → Sto → Prop) → XPost → Prop
  | .cmp o a b, δ, μ, Q, X => wpE a δ μ (fun x μ1 => wpE b δ μ1 (fun y μ2 => cmpD o x y μ2 fun r => Q r μ2) X) X
  | .chn o o' a b c, δ, μ, Q, X => wpE a δ μ (fun x μ1 => wpE b δ μ1 (fun y μ2 => cmpD o x y μ2 fun r => if r = true then wpE c δ μ2 (fun z μ3 => cmpD o' y z μ3 fun r' => Q r' μ3) X else Q false μ2) X) X
  | .tV a, δ, μ, Q, X => wpE a δ μ (fun x μ1 => truD x μ1 fun b => Q b μ1) X
  | .tNot t, δ, μ, Q, X => wpT t δ μ (fun b μ1 => Q (!b) μ1) X
  | .tOne t, δ, μ, Q, X => wpT t δ μ Q X
  | .tAnd t r, δ, μ, Q, X => wpT t δ μ (fun b μ1 => if b = true then wpT r δ μ1 Q X else Q false μ1) X
  | .tOr t r, δ, μ, Q, X => wpT t δ μ (fun b μ1 => if b = true then Q true μ1 else wpT r δ μ1 Q X) X
  | .nop, _, μ, Q, _ => Q true μ
  | .tnd _ ev as, δ, μ, Q, X => wpA as δ μ (fun ds μ1 => ev δ ds μ1 Q X) X
  | _, _, _, _, _ => False
def wpI : IR → Env → Sto → IPost → XPost → Prop
  | .ind _ ev as, δ, μ, K, X => wpA as δ μ (fun ds μ1 => ev δ ds μ1 K X) X
  | .itV a, δ, μ, K, X => wpE a δ μ (fun d μ1 => itD d μ1 K) X
  | .itR1 a, δ, μ, K, X => wpE a δ μ (fun d μ1 => match d with
    | .int n => -(2 ^ 62) ≤ n ∧ n < 2 ^ 62 ∧ K (intsD 0 n.toNat) (fun _ => True) μ1
    | _ => False) X
  | .itR2 a b, δ, μ, K, X => wpE a δ μ (fun d μ1 => wpE b δ μ1 (fun e μ2 => match d, e with
    | .int i, .int j => (-(2 ^ 62) ≤ i ∧ i < 2 ^ 62 ∧ -(2 ^ 62) ≤ j ∧ j < 2 ^ 62) ∧ K (intsD i (j - i).toNat) (fun _ => True) μ2
    | _, _ => False) X) X
  | _, _, _, _, _ => False
def wpG : IR → D → Env → Sto → (Env → Sto → Prop) → Prop
  | .gN i, d, δ, μ, Q => Q (δ.set i (some d)) μ
  | .gT n gs, d, δ, μ, Q => match d with
    | .tup ds => ds.length = n ∧ wpGs gs ds δ μ Q
    | _ => False
  | .gSub o i, d, δ, μ, Q => wpE o δ μ (fun x μ1 => wpE i δ μ1 (fun y μ2 => match x, y with
    | .obj k, .int j => match μ2.cell k with
      | some (.lst ds) => match ixN ds.length j with
        | some n => Q δ (μ2.put k (.lst (ds.set n d)))
        | none => False
      | _ => False
    | _, _ => False) (fun _ _ => False)) (fun _ _ => False)
  | _, _, _, _, _ => False
def wpGs : IR → List D → Env → Sto → (Env → Sto → Prop) → Prop
  | .nil, ds, δ, μ, Q => ds = [] ∧ Q δ μ
  | .cons g r, ds, δ, μ, Q => match ds with
    | d :: ds => wpG g d δ μ fun δ1 μ1 => wpGs r ds δ1 μ1 Q
    | [] => False
  | _, _, _, _, _ => False
def wpS : IR → Env → Sto → Outs → Prop
  | .asg g e, δ, μ, O => wpE e δ μ (fun d μ1 => wpG g d δ μ1 O.nx) (fun x μ' => O.xc x δ μ')
  | .asc i e, δ, μ, O => wpE e δ μ (fun d μ1 => O.nx (δ.set i (some d)) μ1) (fun x μ' => O.xc x δ μ')
  | .exp e, δ, μ, O => wpE e δ μ (fun _ μ1 => O.nx δ μ1) (fun x μ' => O.xc x δ μ')
  | .ret e, δ, μ, O => wpE e δ μ O.rt (fun x μ' => O.xc x δ μ')
  | .ret0, _, μ, O => O.rt .non μ
  | .ifS t a b, δ, μ, O => wpT t δ μ (fun c μ1 => if c = true then wpS a δ μ1 O else wpS b δ μ1 O) (fun x μ' => O.xc x δ μ')
  | .whl t b, δ, μ, O => ∃ n, loopW (fun δ μ Q => wpT t δ μ Q (fun x μ' => O.xc x δ μ')) (fun δ μ N => wpS b δ μ { O with nx := N, ct := N, bk := O.nx }) O.nx n δ μ
  | .fr g it b, δ, μ, O => wpI it δ μ (fun xs gd μ1 => loopF (fun x δ μ N => wpG g x δ μ fun δ' μ' => wpS b δ' μ' { O with nx := N, ct := N, bk := O.nx }) gd O.nx xs δ μ1) (fun x μ' => O.xc x δ μ')
  | .brk, δ, μ, O => O.bk δ μ
  | .cnt, δ, μ, O => O.ct δ μ
  | .pas, δ, μ, O => O.nx δ μ
  | .sno _ ev as, δ, μ, O => wpA as δ μ (fun ds μ1 => ev δ ds μ1 O) (fun x μ' => O.xc x δ μ')
  | .nev, _, _, _ => False
  | .seq s r, δ, μ, O => wpS s δ μ { O with nx := fun δ' μ' => wpS r δ' μ' O }
  | .nil, δ, μ, O => O.nx δ μ
  | _, _, _, _ => False
end
end M
end

section
set_option Elab.async false
set_option linter.all false
set_option maxRecDepth 100000
set_option maxHeartbeats 4000000
/-! M: operators, subscripts, slices, truth by values. -/
namespace M
open PySem PySem.Spec PyProof.Rows L2

abbrev wd (X : Cx) (T : List Addr) (cls : Nat → Addr) : Wd := ⟨X.K, T, cls⟩
/-- what is wanted behind -/
def After (W : Wd) (S : Ss) (QM : Post) (Q : VK) : Prop := ∀ S' d v, S.le S' → Rl W S' → Rep W.K S'.vw d v → QM d S'.μ → Q v S'.H
def AfterX (W : Wd) (S : Ss) (QX : XPost) (E : XK) : Prop := ∀ S' x, S.le S' → Rl W S' → QX x S'.μ → E (.ref (W.cls x)) none S'.H
def AfterB (W : Wd) (S : Ss) (QM : Bool → Sto → Prop) (Q : Bool → Hp → Prop) : Prop := ∀ S' b, S.le S' → Rl W S' → QM b S'.μ → Q b S'.H
theorem After.le {W : Wd} {S S' : Ss} {QM : Post} {Q : VK} (l : S.le S') (h : After W S QM Q) : After W S' QM Q := fun S2 d v l2 => h S2 d v (l.trans l2)
theorem AfterX.le {W : Wd} {S S' : Ss} {QM : XPost} {Q : XK} (l : S.le S') (h : AfterX W S QM Q) : AfterX W S' QM Q := fun S2 d l2 => h S2 d (l.trans l2)
theorem AfterB.le {W : Wd} {S S' : Ss} {QM : Bool → Sto → Prop} {Q : Bool → Hp → Prop} (l : S.le S') (h : AfterB W S QM Q) : AfterB W S' QM Q := fun S2 d l2 => h S2 d (l.trans l2)

section
variable {W : Wd} {S : Ss} {d e : D} {v u : V} {ds : List D}
theorem asLM_rep (R : Rl W S) (r : Rep W.K S.vw d v) (h : asLM d S.μ = some ds) : ∃ a xs, v = .ref a ∧ S.H a = some (.lst xs) ∧ Reps W.K S.vw ds xs := by
  unfold asLM at h
  split at h
  · cases h
    obtain ⟨a, xs, e1, s, r2⟩ := r
    exact ⟨a, xs, e1, hid_ex s, r2⟩
  · rename_i k
    split at h
    · rename_i c hc
      cases h
      obtain ⟨xs, e1, r2⟩ := R.ok _ _ hc
      exact ⟨_, xs, r.2, e1, r2⟩
    · cases h
  · cases h
theorem asL_rep (R : Rl W S) (r : Rep W.K S.vw d v) (h : asL d S.μ = some ds) : ∃ a xs, v = .ref a ∧ SqL W.K S.H a xs ∧ Reps W.K S.vw ds xs := by
  unfold asL at h
  split at h
  · cases h
    obtain ⟨a, xs, e1, s, r2⟩ := r
    exact ⟨a, xs, e1, SqL.of (hid_ex s), r2⟩
  · cases h
    obtain ⟨a, xs, e1, s, r2⟩ := r
    exact ⟨a, xs, e1, hid_ext.sql s, r2⟩
  · rename_i k
    split at h
    · rename_i c hc
      cases h
      obtain ⟨xs, e1, r2⟩ := R.ok _ _ hc
      exact ⟨_, xs, r.2, SqL.of e1, r2⟩
    · cases h
  · cases h
theorem asSeq_rep (R : Rl W S) (r : Rep W.K S.vw d v) (h : asSeq d S.μ = some ds) : ∃ a xs, v = .ref a ∧ (SqL W.K S.H a xs ∨ SqT W.K S.H a xs) ∧ Reps W.K S.vw ds xs := by
  unfold asSeq at h
  split at h
  · cases h
    obtain ⟨a, xs, e1, s, r2⟩ := r
    exact ⟨a, xs, e1, .inr (hid_ext.sqt s), r2⟩
  · obtain ⟨a, xs, e1, s, r2⟩ := asL_rep R r h
    exact ⟨a, xs, e1, .inl s, r2⟩
mutual
theorem dp_of {K : PySem.W.Frag} {w : Vw} {H : Hp} (hx : Ext w.G H) : ∀ {d : D} {v : V}, Rep K w d v → pureD d = true → Dp K H v (pyOf d)
  | .non, _, h, _ => by cases (show _ = V.non from h); exact .non
  | .bl b, _, h, _ => by cases (show _ = V.bl b from h); exact .bl b
  | .int b, _, h, _ => by cases (show _ = V.int b from h); exact .int b
  | .str b, _, h, _ => by cases (show _ = V.str b from h); exact .str b
  | .tup ds, _, ⟨a, xs, e, s, r⟩, p => by cases e; exact .tup (hx.sqt s) (dps_of hx r p)
  | .lst ds, _, ⟨a, xs, e, s, r⟩, p => by cases e; exact .lst (SqL.of (hx.at s fun _ z => by cases z)) (dps_of hx r p)
  | .ty _, _, _, p => by cases (show false = true from p)
  | .scr _, _, _, p => by cases (show false = true from p)
  | .obj _, _, _, p => by cases (show false = true from p)
theorem dps_of {K : PySem.W.Frag} {w : Vw} {H : Hp} (hx : Ext w.G H) : ∀ {ds : List D} {vs : List V}, Reps K w ds vs → pureDs ds = true → DpAll K H vs (pyOfs ds)
  | [], _, h, _ => by cases (show _ = [] from h); exact .nil
  | d :: ds, _, ⟨x, r, e, h, t⟩, p => by
    cases e
    have p2 : (pureD d && pureDs ds) = true := p
    rw [Bool.and_eq_true] at p2
    exact .cons (dp_of hx h p2.1) (dps_of hx t p2.2)
end
theorem eqN_ok : ∀ (n : Nat) (d : D), eqN n d = true → pureD d = true ∧ (pyOf d).plain = true ∧ (pyOf d).depth ≤ n := by
  have all : ∀ (n : Nat), (∀ d, eqN n d = true → pureD d = true ∧ (pyOf d).plain = true ∧ (pyOf d).depth ≤ n) → ∀ ds : List D, ds.all (eqN n) = true → pureDs ds = true ∧ PyData.plainAll (pyOfs ds) = true ∧ PyData.depthAll (pyOfs ds) ≤ n := by
    intro n ih ds
    induction ds with
    | nil => exact fun _ => ⟨rfl, rfl, Nat.zero_le _⟩
    | cons d ds ih2 =>
      intro h
      rw [List.all_cons, Bool.and_eq_true] at h
      obtain ⟨a1, a2, a3⟩ := ih d h.1
      obtain ⟨b1, b2, b3⟩ := ih2 h.2
      refine ⟨by show (pureD d && pureDs ds) = true; rw [a1, b1]; rfl, by show (PyData.plain (pyOf d) && PyData.plainAll (pyOfs ds)) = true; rw [a2, b2]; rfl, ?_⟩
      show max (PyData.depth (pyOf d)) (PyData.depthAll (pyOfs ds)) ≤ n
      omega
  intro n
  induction n with
  | zero => intro d h; cases d <;> first | (cases (show false = true from h); done) | exact ⟨rfl, rfl, Nat.le_refl _⟩
  | succ n ih =>
    intro d h
    cases d with
    | non => exact ⟨rfl, rfl, Nat.zero_le _⟩
    | bl b => exact ⟨rfl, rfl, Nat.zero_le _⟩
    | int b => exact ⟨rfl, rfl, Nat.zero_le _⟩
    | str b => exact ⟨rfl, rfl, Nat.zero_le _⟩
    | tup ds =>
      obtain ⟨a1, a2, a3⟩ := all n ih ds h
      exact ⟨a1, a2, Nat.succ_le_succ a3⟩
    | lst ds =>
      obtain ⟨a1, a2, a3⟩ := all n ih ds h
      exact ⟨a1, a2, Nat.succ_le_succ a3⟩
    | _ => cases (show false = true from h)
theorem drf_dp (R : Rl W S) (r : Rep W.K S.vw d v) (h : eqOk (drf d S.μ) = true) : Dp W.K S.H v (pyOf (drf d S.μ)) ∧ (pyOf (drf d S.μ)).plain = true ∧ (pyOf (drf d S.μ)).depth ≤ 12 := by
  have h2 := eqN_ok 12 _ h
  refine ⟨?_, h2.2⟩
  unfold drf at h2 ⊢
  split
  · rename_i ds e
    rw [e] at h2
    obtain ⟨a, xs, e1, s, r2⟩ := asLM_rep R r e
    subst e1
    exact .lst (SqL.of s) (dps_of hid_ext r2 h2.1)
  · rename_i e
    rw [e] at h2
    exact dp_of hid_ext r h2.1
theorem eqOk_dp (r : Rep W.K S.vw d v) (h : eqOk d = true) : Dp W.K S.H v (pyOf d) ∧ (pyOf d).plain = true ∧ (pyOf d).depth ≤ 12 := by
  have h2 := eqN_ok 12 _ h
  exact ⟨dp_of hid_ext r h2.1, h2.2⟩
theorem pyOfs_any (x : D) : ∀ ys : List D, (pyOfs ys).any (fun z => PyData.eqv z (pyOf x)) = ys.any fun y => deq y x
  | [] => rfl
  | y :: ys => by
    show (PyData.eqv (pyOf y) (pyOf x) || (pyOfs ys).any _) = (deq y x || ys.any _)
    rw [pyOfs_any x ys]
    rfl
theorem flat_rep {K : PySem.W.Frag} {w : Vw} (h : flatD d = true) (r : Rep K w d v) : flatV v = true := by
  cases d <;> first | (cases (show false = true from h)) | (have e : v = _ := r; subst e; rfl)
theorem flats_rep {K : PySem.W.Frag} {w : Vw} : ∀ {ds : List D} {vs : List V}, ds.all flatD = true → Reps K w ds vs → vs.all flatV = true
  | [], _, _, r => by cases (show _ = [] from r); rfl
  | d :: ds, _, h, ⟨x, t, e, r1, r2⟩ => by
    cases e
    rw [List.all_cons, Bool.and_eq_true] at h ⊢
    exact ⟨flat_rep h.1 r1, flats_rep h.2 r2⟩
theorem flat_eq {K : PySem.W.Frag} {w : Vw} (hd : flatD d = true) (he : flatD e = true) (r : Rep K w d v) (q : Rep K w e u) : eqV v u = deq d e := by
  cases d <;> first | (cases (show false = true from hd)) | skip
  all_goals (cases e <;> first | (cases (show false = true from he)) | skip)
  all_goals (have e1 : v = _ := r; have e2 : u = _ := q; subst e1 e2)
  all_goals first | rfl | (unfold eqV deq pyOf PyData.eqv; rfl) | skip
  all_goals (simp only [eqV, deq, pyOf, PyData.eqv])
  all_goals first | rfl | (rename_i a b; cases a <;> cases b <;> rfl) | skip
theorem flat_any {K : PySem.W.Frag} {w : Vw} (hx : flatD e = true) (rx : Rep K w e u) : ∀ {ds : List D} {vs : List V}, ds.all flatD = true → Reps K w ds vs → inV u vs = ds.any fun y => deq y e
  | [], _, _, r => by cases (show _ = [] from r); rfl
  | d :: ds, _, h, ⟨x, t, e1, r1, r2⟩ => by
    cases e1
    rw [List.all_cons, Bool.and_eq_true] at h
    show (eqV x u || inV u t) = (deq d e || ds.any _)
    rw [flat_eq h.1 hx r1 rx, flat_any hx rx h.2 r2]
end

/-! ### binary operators -/
theorem repS_nil {s : Str} (h : s.length = 0) (n : Nat) : repS s n = s := by
  obtain ⟨c⟩ := s
  have hc : c = #[] := Array.eq_empty_of_size_eq_zero h
  subst hc
  unfold repS
  congr 1
  induction n with
  | zero => rfl
  | succ n ih => rw [List.replicate_succ, List.foldl_cons]; exact ih
theorem foldl_size (c : Array Nat) : ∀ (n : Nat) (acc : Array Nat), ((List.replicate n c).foldl (· ++ ·) acc).size = acc.size + c.size * n
  | 0, acc => by simp
  | n + 1, acc => by
    rw [List.replicate_succ, List.foldl_cons, foldl_size c n, Array.size_append, Nat.mul_succ]
    omega
theorem repS_length {s : Str} {n : Nat} : (repS s n).length = s.length * n := by
  show (repS s n).cps.size = s.cps.size * n
  unfold repS
  rw [foldl_size]
  simp
theorem repS_one {s : Str} : repS s 1 = s := by
  obtain ⟨c⟩ := s
  unfold repS
  simp
theorem op_mulS {X : Cx} : OpR X (binaryOp .Mult) (fun x y H Q => ∃ (s : Str) (n : Int), x = .str s ∧ y = .int n ∧ 0 ≤ n ∧ n < 2 ^ 31 ∧ s.length * n.toNat ≤ sizeLine ∧ Q (.str (repS s n.toNat)) H) := by
  intro pins s σ H x y v u Q I rx ry h
  obtain ⟨z, n, rfl, rfl, h0, h1, h2, q⟩ := h
  obtain ⟨t, rfl⟩ := rx
  obtain ⟨t', rfl⟩ := ry
  have hs : sizeLine = 16777216 := sizeLine_eq
  refine PySem.P.mul_str ?_ (fun h3 h4 => ?_) (fun h3 h4 => ?_) ?_
  · have e1 : decide (n < -(2 ^ 63 : Int)) = false := decide_eq_false (by omega)
    have e2 : decide (n ≥ 2 ^ 63) = false := decide_eq_false (by omega)
    rw [e1, e2]
    rfl
  · have h5 : (z.length : Int) * n ≤ 16777216 := by
      have : ((z.length * n.toNat : Nat) : Int) ≤ 16777216 := by omega
      rw [Int.natCast_mul, Int.toNat_of_nonneg h0] at this
      exact this
    have h6 : (z.length : Int) ≤ (2 ^ 63 - 1) / n := by
      rw [Int.le_ediv_iff_mul_le (by omega)]
      omega
    omega
  · unfold Builtin.Str.tooLong
    exact decide_eq_false (by omega)
  · by_cases h3 : n < 1
    · rw [if_pos h3]
      have e : n = 0 := by omega
      subst e
      exact ⟨by decide, ⟨.str _, H, I.tok _, ⟨_, rfl⟩, q⟩⟩
    · rw [if_neg h3]
      by_cases h4 : (n == 1 || z.length == 0) = true
      · rw [if_pos h4]
        have e : repS z n.toNat = z := by
          rw [Bool.or_eq_true, beq_iff_eq, beq_iff_eq] at h4
          rcases h4 with rfl | h4
          · exact repS_one
          · exact repS_nil h4 _
        rw [e] at q
        exact ⟨.str z, H, I, ⟨_, rfl⟩, q⟩
      · rw [if_neg h4]
        refine ⟨?_, ⟨.str _, H, I.tok _, ⟨_, rfl⟩, q⟩⟩
        show (repS z n.toNat).length ≤ sizeLine
        rw [repS_length]
        exact h2

def R2d (W : Wd) (f : D → D → Sto → Post → Prop) : R2 := fun x y H Q => ∃ S dx dy QM, S.H = H ∧ Rl W S ∧ Rep W.K S.vw dx x ∧ Rep W.K S.vw dy y ∧ f dx dy S.μ QM ∧ After W S QM Q
section
variable {X : Cx} {T : List Addr} {cls : Nat → Addr}
theorem fresh_lst {W : Wd} {S : Ss} {QM : Post} {Q : VK} {ds : List D} {xs : List V} (R : Rl W S) (r : Reps W.K S.vw ds xs) (hb : QM (.lst ds) S.μ) (hq : After W S QM Q) :
    ∀ p, S.H p = none → Q (.ref p) (upd S.H p (.lst xs)) := fun p hp => by
  obtain ⟨l, R2, g⟩ := R.fresh (o := .lst xs) hp
  exact hq { S with H := upd S.H p (.lst xs) } (.lst ds) (.ref p) l R2 ⟨p, xs, rfl, g, r.mono l.1⟩ hb
theorem fresh_tup {W : Wd} {S : Ss} {QM : Post} {Q : VK} {ds : List D} {xs : List V} (R : Rl W S) (r : Reps W.K S.vw ds xs) (hb : QM (.tup ds) S.μ) (hq : After W S QM Q) :
    ∀ p, S.H p = none → Q (.ref p) (upd S.H p (.tup xs)) := fun p hp => by
  obtain ⟨l, R2, g⟩ := R.fresh (o := .tup xs) hp
  exact hq { S with H := upd S.H p (.tup xs) } (.tup ds) (.ref p) l R2 ⟨p, xs, rfl, SqT.of g, r.mono l.1⟩ hb
theorem bin_ok {o : Operator} : OpR X (binaryOp o) (R2d (wd X T cls) (binD o)) := by
  intro pins s σ _ x y v u Q I rx ry h0
  obtain ⟨S, dx, dy, QM, rfl, R, hx, hy, hb, hq⟩ := h0
  unfold binD at hb
  have fin : ∀ {d v}, Rep X.K S.vw d v → QM d S.μ → Q v S.H := fun r q => hq S _ _ (Ss.le.refl _) R r q
  split at hb
  · exact op_add pins s σ _ x y v u Q I rx ry ⟨_, _, hx, hy, fin (d := .int _) rfl hb⟩
  · exact op_sub pins s σ _ x y v u Q I rx ry ⟨_, _, hx, hy, fin (d := .int _) rfl hb⟩
  · exact op_mul pins s σ _ x y v u Q I rx ry ⟨_, _, hx, hy, hb.1, fin (d := .int _) rfl hb.2⟩
  · exact op_mulS pins s σ _ x y v u Q I rx ry ⟨_, _, hx, hy, hb.1.1, hb.1.2.1, hb.1.2.2, fin (d := .str _) rfl hb.2⟩
  · exact op_fdivN pins s σ _ x y v u Q I rx ry ⟨_, _, hx, hy, hb.1, fin (d := .int _) rfl hb.2⟩
  · exact op_modN pins s σ _ x y v u Q I rx ry ⟨_, _, hx, hy, hb.1, fin (d := .int _) rfl hb.2⟩
  · exact op_pow pins s σ _ x y v u Q I rx ry ⟨_, _, hx, hy, hb.1, fin (d := .int _) rfl hb.2⟩
  · exact op_add_str pins s σ _ x y v u Q I rx ry ⟨_, _, hx, hy, hb.1, fin (d := .str _) rfl hb.2⟩
  · split at hb
    · rename_i xs ys e1 e2
      obtain ⟨a, vx, r1, g1, q1⟩ := asLM_rep R hx e1
      obtain ⟨b, vy, r2, g2, q2⟩ := asLM_rep R hy e2
      exact op_cat pins s σ _ x y v u Q I rx ry ⟨a, b, vx, vy, r1, r2, g1, g2, by rw [q1.length, q2.length]; exact hb.1, fresh_lst R (q1.append q2) hb.2 hq⟩
    · exact hb.elim
  · exact hb.elim

/-! ### comparisons -/
def R2c (W : Wd) (o : CmpOp) : R2 := fun x y H Q => ∃ S dx dy QM, S.H = H ∧ Rl W S ∧ Rep W.K S.vw dx x ∧ Rep W.K S.vw dy y ∧ cmpD o dx dy S.μ QM ∧ ∀ b, QM b → Q (.bl b) H
theorem none_iff {W : Wd} {S : Ss} {d : D} {v : V} (r : Rep W.K S.vw d v) : decide (v = V.non) = isNonD d := by
  cases d with
  | non => have e : v = _ := r; subst e; rfl
  | bl b => have e : v = _ := r; subst e; rfl
  | int b => have e : v = _ := r; subst e; rfl
  | str b => have e : v = _ := r; subst e; rfl
  | ty b => have e : v = _ := r; subst e; rfl
  | tup ds => obtain ⟨a, xs, e, _⟩ := r; subst e; rfl
  | lst ds => obtain ⟨a, xs, e, _⟩ := r; subst e; rfl
  | scr ds => obtain ⟨a, xs, e, _⟩ := r; subst e; rfl
  | obj k => have e := r.2; subst e; rfl
theorem one_sign {i : Str} {c : Nat} (h : i.cps.toList = [c]) : i = ⟨#[c]⟩ := by
  cases i with
  | mk cps =>
    have e : cps = #[c] := by
      apply Array.toList_inj.mp
      exact h
    rw [e]
theorem cmp_ok {o : CmpOp} (hu : X.A.units + 65 < cLine) : OpR X (compareOp o) (R2c (wd X T cls) o) := by
  intro pins s σ _ x y v u Q I rx ry h0
  obtain ⟨S, dx, dy, QM, rfl, R, hx, hy, hb, hq⟩ := h0
  unfold cmpD at hb
  have eqs : ∀ {dx dy : D} {x y : V} {v u : Value}, RelV x v → RelV y u → Dp X.K S.H x (pyOf dx) → Dp X.K S.H y (pyOf dy) → ∃ as bs, Reads s.heap v (pyOf dx) as ∧ Reads s.heap u (pyOf dy) bs := fun {dx dy x y v u} rx ry p1 p2 => by
    obtain ⟨as, r1⟩ := Dp.reads I _ x v p1 rx
    obtain ⟨bs, r2⟩ := Dp.reads I _ y u p2 ry
    exact ⟨as, bs, r1, r2⟩
  split at hb
  · obtain ⟨h1, h2, h3⟩ := hb
    obtain ⟨p1, s1, t1⟩ := drf_dp R hx h1
    obtain ⟨p2, s2, t2⟩ := drf_dp R hy h2
    obtain ⟨as, bs, r1, r2⟩ := eqs rx ry p1 p2
    exact SeqAt.eq_plain r1 r2 s1 s2 (by omega) ⟨.bl _, _, I, rfl, hq _ h3⟩
  · obtain ⟨h1, h2, h3⟩ := hb
    obtain ⟨p1, s1, t1⟩ := drf_dp R hx h1
    obtain ⟨p2, s2, t2⟩ := drf_dp R hy h2
    obtain ⟨as, bs, r1, r2⟩ := eqs rx ry p1 p2
    exact SeqAt.ne_plain r1 r2 s1 s2 (by omega) ⟨.bl _, _, I, rfl, hq _ h3⟩
  · exact op_lt pins s σ _ x y v u Q I rx ry ⟨_, _, hx, hy, hq _ hb⟩
  · exact op_le pins s σ _ x y v u Q I rx ry ⟨_, _, hx, hy, hq _ hb⟩
  · exact op_gt pins s σ _ x y v u Q I rx ry ⟨_, _, hx, hy, hq _ hb⟩
  · exact op_ge pins s σ _ x y v u Q I rx ry ⟨_, _, hx, hy, hq _ hb⟩
  · exact op_lt_str pins s σ _ x y v u Q I rx ry ⟨_, _, hx, hy, hq _ hb⟩
  · rename_i i j
    unfold strIn at hb
    split at hb
    · rename_i c e
      exact op_in_sign pins s σ _ x y v u Q I rx ry ⟨c, j, by rw [← one_sign e]; exact hx, hy, hq _ hb⟩
    · exact op_in_str pins s σ _ x y v u Q I rx ry ⟨_, _, hx, hy, hq _ hb⟩
  · rename_i i j
    unfold strIn at hb
    split at hb
    · rename_i c e
      exact op_notIn_sign pins s σ _ x y v u Q I rx ry ⟨c, j, by rw [← one_sign e]; exact hx, hy, hq _ hb⟩
    · exact op_notIn_str pins s σ _ x y v u Q I rx ry ⟨_, _, hx, hy, hq _ hb⟩
  · rename_i ys
    obtain ⟨h1, h2, h3⟩ := hb
    obtain ⟨p1, s1, t1⟩ := eqOk_dp hx h1
    obtain ⟨p2, s2, t2⟩ := eqOk_dp hy h2
    obtain ⟨as, bs, r1, r2⟩ := eqs rx ry p1 p2
    refine SeqAt.in_tuple_data r2 r1 s2 s1 (by omega) ⟨.bl _, _, I, rfl, ?_⟩
    rw [pyOfs_any]
    exact hq _ h3
  · rename_i ys
    obtain ⟨h1, h2, h3⟩ := hb
    obtain ⟨p1, s1, t1⟩ := eqOk_dp hx h1
    obtain ⟨p2, s2, t2⟩ := eqOk_dp hy h2
    obtain ⟨as, bs, r1, r2⟩ := eqs rx ry p1 p2
    refine SeqAt.notIn_tuple_data r2 r1 s2 s1 (by omega) ⟨.bl _, _, I, rfl, ?_⟩
    rw [pyOfs_any]
    exact hq _ h3
  · split at hb
    · rename_i ys e
      obtain ⟨h1, h2, h3⟩ := hb
      obtain ⟨a, xs, e1, g1, q1⟩ := asLM_rep R hy e
      obtain ⟨p1, s1, t1⟩ := eqOk_dp hx h1
      have h2' := eqN_ok 12 (.lst ys) h2
      have p2 : Dp X.K S.H y (pyOf (.lst ys)) := by rw [e1]; exact .lst (SqL.of g1) (dps_of hid_ext q1 h2'.1)
      obtain ⟨as, bs, r1, r2⟩ := eqs rx ry p1 p2
      refine SeqAt.in_list_data r2 r1 h2'.2.1 s1 (by omega) ⟨.bl _, _, I, rfl, ?_⟩
      rw [pyOfs_any]
      exact hq _ h3
    · exact hb.elim
  · split at hb
    · rename_i ys e
      obtain ⟨h1, h2, h3⟩ := hb
      obtain ⟨a, xs, e1, g1, q1⟩ := asLM_rep R hy e
      obtain ⟨p1, s1, t1⟩ := eqOk_dp hx h1
      have h2' := eqN_ok 12 (.lst ys) h2
      have p2 : Dp X.K S.H y (pyOf (.lst ys)) := by rw [e1]; exact .lst (SqL.of g1) (dps_of hid_ext q1 h2'.1)
      obtain ⟨as, bs, r1, r2⟩ := eqs rx ry p1 p2
      refine SeqAt.notIn_list_data r2 r1 h2'.2.1 s1 (by omega) ⟨.bl _, _, I, rfl, ?_⟩
      rw [pyOfs_any]
      exact hq _ h3
    · exact hb.elim
  · refine op_isN pins s σ _ x y v u Q I rx ry ⟨hy, ?_⟩
    rw [none_iff hx]
    exact hq _ hb
  · refine op_notN pins s σ _ x y v u Q I rx ry ⟨hy, ?_⟩
    rw [none_iff hx]
    exact hq _ hb
  · exact hb.elim

/-! ### subscripts, slices, truth -/
theorem reps_at {K : PySem.W.Frag} {w : Vw} {ds : List D} {xs : List V} {i : Int} {d : D} (r : Reps K w ds xs) (h : atI ds i = some d) : ∃ v, atI xs i = some v ∧ Rep K w d v := by
  unfold atI at h ⊢
  rw [r.length]
  cases e : ixN ds.length i with
  | none => rw [e] at h; cases h
  | some j =>
    rw [e] at h
    exact r.get h
theorem ix_ok : IxR X (R2d (wd X T cls) ixD) := by
  intro value slice pins s σ _ x y v u Q I rx ry h0 hs
  obtain ⟨S, dx, dy, QM, rfl, R, hx, hy, hb, hq⟩ := h0
  have fin : ∀ {d v}, Rep X.K S.vw d v → QM d S.μ → Q v S.H := fun r q => hq S _ _ (Ss.le.refl _) R r q
  unfold ixD at hb
  split at hb
  · obtain ⟨h1, h2⟩ := hb
    split at h2
    · rename_i c e
      exact ix_str value slice pins s σ _ x y v u Q I rx ry ⟨_, _, c, hx, hy, h1, e, fin (d := .str _) rfl h2⟩ hs
    · exact h2.elim
  · split at hb
    · rename_i xs e
      split at hb
      · rename_i d e2
        obtain ⟨a, vs, e1, g1, q1⟩ := asSeq_rep R hx e
        obtain ⟨vv, hw, hrv⟩ := reps_at q1 e2
        rcases g1 with g1 | g1
        · exact ix_list value slice pins s σ _ x y v u Q I rx ry ⟨a, vs, _, vv, e1, hy, g1, hw, fin hrv hb⟩ hs
        · exact ix_tup value slice pins s σ _ x y v u Q I rx ry ⟨a, vs, _, vv, e1, hy, g1, hw, fin hrv hb⟩ hs
      · exact hb.elim
    · exact hb.elim
  · exact hb.elim
def RSd (W : Wd) : V → Option Int → Option Int → Hp → VK → Prop := fun x lo hi H Q => ∃ S dx QM, S.H = H ∧ Rl W S ∧ Rep W.K S.vw dx x ∧ slD dx lo hi S.μ QM ∧ After W S QM Q
theorem reps_cut {K : PySem.W.Frag} {w : Vw} {ds : List D} {xs : List V} {lo hi : Option Int} (r : Reps K w ds xs) : Reps K w (cutD ds lo hi) (cutV xs lo hi) := by
  unfold cutD cutV
  rw [r.length]
  exact (r.drop _).take _
theorem sl_ok : SlR X (RSd (wd X T cls)) := by
  intro pins s σ _ x v vl vu lo hi sl Q I rx hs pl pu h0
  obtain ⟨S, dx, QM, rfl, R, hx, hb, hq⟩ := h0
  unfold slD at hb
  split at hb
  · rename_i z
    exact sl_str pins s σ _ x v vl vu lo hi sl Q I rx hs pl pu ⟨z, hx, hb.1, hq S (.str _) _ (Ss.le.refl _) R rfl hb.2⟩
  · split at hb
    · rename_i ds e
      obtain ⟨a, vs, e1, g1, q1⟩ := asL_rep R hx e
      exact sl_list pins s σ _ x v vl vu lo hi sl Q I rx hs pl pu ⟨a, vs, e1, g1, fresh_lst R (reps_cut q1) hb hq⟩
    · exact hb.elim
theorem tru_rep {W : Wd} {S : Ss} {d : D} {v : V} {QM : Bool → Prop} (R : Rl W S) (r : Rep W.K S.vw d v) (h : truD d S.μ QM) : ∃ k, TruV W.K v S.H k ∧ QM k := by
  have isE : ∀ {ds : List D} {xs : List V}, Reps W.K S.vw ds xs → (!ds.isEmpty) = !xs.isEmpty := fun {ds xs} q => by
    have := q.length
    cases ds <;> cases xs <;> first | rfl | simp at this
  unfold truD at h
  split at h
  · have e : v = _ := r; subst e; exact ⟨_, rfl, h⟩
  · have e : v = _ := r; subst e; exact ⟨_, rfl, h⟩
  · have e : v = _ := r; subst e; exact ⟨_, rfl, h⟩
  · have e : v = _ := r; subst e; exact ⟨_, ⟨h.1, rfl⟩, h.2⟩
  · split at h
    · rename_i ds e
      obtain ⟨a, xs, e1, g1, q1⟩ := asSeq_rep R r e
      subst e1
      rw [isE q1] at h
      rcases g1 with g1 | g1
      · exact ⟨_, .inl ⟨xs, g1, rfl⟩, h⟩
      · exact ⟨_, .inr (.inl ⟨xs, g1, rfl⟩), h⟩
    · split at h
      · rename_i kvs e
        unfold asK at e
        split at e
        · rename_i k
          split at e
          · rename_i c hc
            cases e
            obtain ⟨es, e1, r2⟩ := R.ok _ _ hc
            have e2 := r.2
            subst e2
            refine ⟨_, .inr (.inr ⟨es, e1, rfl⟩), ?_⟩
            have : (!kvs.isEmpty) = !es.isEmpty := by
              cases kvs with
              | nil => cases (show es = [] from r2); rfl
              | cons p t =>
                obtain ⟨k1, d1⟩ := p
                obtain ⟨x, t2, e3, _⟩ := r2
                subst e3
                rfl
            rw [this] at h
            exact h
          · cases e
        · cases e
      · exact h.elim
end
end M
end

section
set_option Elab.async false
set_option linter.all false
set_option maxRecDepth 100000
set_option maxHeartbeats 4000000
/-! M: what the machine's terms have to do with the layer's readings, construct by construct. -/
namespace M
open PySem PySem.Spec PyProof.Rows L2

def AfterA (W : Wd) (S : Ss) (QM : List D → Sto → Prop) (Q : List V → Hp → Prop) : Prop := ∀ S' ds vs, S.le S' → Rl W S' → Reps W.K S'.vw ds vs → QM ds S'.μ → Q vs S'.H
def AfterO (W : Wd) (S : Ss) (QM : Option Int → Sto → Prop) (Q : Option Int → Hp → Prop) : Prop := ∀ S' o, S.le S' → Rl W S' → QM o S'.μ → Q o S'.H
theorem AfterA.le {W : Wd} {S S' : Ss} {QM : List D → Sto → Prop} {Q : List V → Hp → Prop} (l : S.le S') (h : AfterA W S QM Q) : AfterA W S' QM Q := fun S2 ds vs l2 => h S2 ds vs (l.trans l2)
theorem AfterO.le {W : Wd} {S S' : Ss} {QM : Option Int → Sto → Prop} {Q : Option Int → Hp → Prop} (l : S.le S') (h : AfterO W S QM Q) : AfterO W S' QM Q := fun S2 o l2 => h S2 o (l.trans l2)
/-- what is walked yields these data, one after another, while gd holds -/
def IterD (W : Wd) (J : It) (ds : List D) (gd : Sto → Prop) (S0 : Ss) : Prop :=
  ∀ S, S0.vw.le S.vw → Rl W S → gd S.μ → J.stop ds.length S.H ∧ ∀ i, i < ds.length → J.go i S.H ∧ ∀ x H', J.yld i S.H x H' → ∃ S' d, S.le S' ∧ Rl W S' ∧ S'.H = H' ∧ S'.μ = S.μ ∧ ds[i]? = some d ∧ Rep W.K S'.vw d x
theorem IterD.le {W : Wd} {J : It} {ds : List D} {gd : Sto → Prop} {S0 S1 : Ss} (l : S0.vw.le S1.vw) (h : IterD W J ds gd S0) : IterD W J ds gd S1 := fun S l2 => h S (l.trans l2)
def AfterI (W : Wd) (S : Ss) (KI : IPost) (R : It → Hp → Prop) : Prop := ∀ S' J ds gd, S.le S' → Rl W S' → IterD W J ds gd S' → KI ds gd S'.μ → R J S'.H

/-! ### the readings of the machine's terms -/
def DE (W : Wd) (Wx : WX) (c : IR) : TE := fun σ H Q => ∃ S δ QM QX, S.H = H ∧ Rl W S ∧ EnvR W S.vw δ σ ∧ wpE c δ S.μ QM QX ∧ After W S QM Q ∧ AfterX W S QX (WE Wx σ)
def DT (W : Wd) (Wx : WX) (c : IR) : TT := fun σ H Q => ∃ S δ QM QX, S.H = H ∧ Rl W S ∧ EnvR W S.vw δ σ ∧ wpT c δ S.μ QM QX ∧ AfterB W S QM Q ∧ AfterX W S QX (WE Wx σ)
def DA (W : Wd) (Wx : WX) (c : IR) : TA := fun σ H Q => ∃ S δ QM QX, S.H = H ∧ Rl W S ∧ EnvR W S.vw δ σ ∧ wpA c δ S.μ QM QX ∧ AfterA W S QM Q ∧ AfterX W S QX (WE Wx σ)
def DO (W : Wd) (Wx : WX) (c : IR) : TO := fun σ H Q => ∃ S δ QM QX, S.H = H ∧ Rl W S ∧ EnvR W S.vw δ σ ∧ wpOpt c (fun μ K => wpE c δ μ K QX) S.μ QM ∧ AfterO W S QM Q ∧ AfterX W S QX (WE Wx σ)
def DI (W : Wd) (Wx : WX) (c : IR) : TI := fun σ H R => ∃ S δ KI QX, S.H = H ∧ Rl W S ∧ EnvR W S.vw δ σ ∧ wpI c δ S.μ KI QX ∧ AfterI W S KI R ∧ AfterX W S QX (WE Wx σ)
def slotsG : IR → List Nat
  | .gN i => [i]
  | .gT _ gs => slotsG gs
  | .cons g r => slotsG g ++ slotsG r
  | _ => []
def AfterG (W : Wd) (S : Ss) (c : IR) (σ : L2.St) (QG : Env → Sto → Prop) (Q : L2.St → Hp → Prop) : Prop :=
  ∀ S' δ' σ', S.le S' → Rl W S' → EnvR W S'.vw δ' σ' → (σ'.length = σ.length ∧ ∀ j, j ∉ slotsG c → σ'[j]? = σ[j]?) → QG δ' S'.μ → Q σ' S'.H
def DG (W : Wd) (c : IR) : TG := fun v σ H Q => ∃ S δ d QG, S.H = H ∧ Rl W S ∧ EnvR W S.vw δ σ ∧ Rep W.K S.vw d v ∧ wpG c d δ S.μ QG ∧ AfterG W S c σ QG Q
def DGs (W : Wd) (c : IR) : TGs := fun vs σ H Q => ∃ S δ ds QG, S.H = H ∧ Rl W S ∧ EnvR W S.vw δ σ ∧ Reps W.K S.vw ds vs ∧ wpGs c ds δ S.μ QG ∧ AfterG W S c σ QG Q
structure ContS (W : Wd) (Wx : WX) (O : Outs) (E : Ends) (S : Ss) : Prop where
  nx : ∀ S' δ' σ', S.le S' → Rl W S' → EnvR W S'.vw δ' σ' → O.nx δ' S'.μ → E.nx σ' S'.H
  rt : After W S O.rt E.rt
  bk : ∀ S' δ' σ', S.le S' → Rl W S' → EnvR W S'.vw δ' σ' → O.bk δ' S'.μ → E.bk σ' S'.H
  ct : ∀ S' δ' σ', S.le S' → Rl W S' → EnvR W S'.vw δ' σ' → O.ct δ' S'.μ → E.ct σ' S'.H
  xc : ∀ S' x δ' σ', S.le S' → Rl W S' → EnvR W S'.vw δ' σ' → O.xc x δ' S'.μ → Wx (.ref (W.cls x)) none σ' S'.H
theorem ContS.le {W : Wd} {Wx : WX} {O : Outs} {E : Ends} {S S' : Ss} (l : S.le S') (h : ContS W Wx O E S) : ContS W Wx O E S' :=
  ⟨fun S2 δ σ l2 => h.nx S2 δ σ (l.trans l2), h.rt.le l, fun S2 δ σ l2 => h.bk S2 δ σ (l.trans l2), fun S2 δ σ l2 => h.ct S2 δ σ (l.trans l2), fun S2 x δ σ l2 => h.xc S2 x δ σ (l.trans l2)⟩
theorem ContS.afx {W : Wd} {Wx : WX} {O : Outs} {E : Ends} {S : Ss} {δ : Env} {σ : L2.St} (h : ContS W Wx O E S) (hE : EnvR W S.vw δ σ) : AfterX W S (fun x μ' => O.xc x δ μ') (WE Wx σ) :=
  fun S' x l R q => h.xc S' x δ σ l R (hE.mono l.1) q
def DS (W : Wd) (Wx : WX) (c : IR) : TS := fun E σ H => ∃ S δ O, S.H = H ∧ Rl W S ∧ EnvR W S.vw δ σ ∧ wpS c δ S.μ O ∧ ContS W Wx O E S
theorem afx_no {W : Wd} {S : Ss} {E : XK} : AfterX W S (fun _ _ => False) E := fun _ _ _ _ q => q.elim

section
variable {X : Cx} {T : List Addr} {cls : Nat → Addr} {Wx : WX}
theorem PE.weak {e : Expr} {t u : TE} (h : PE X e t) (k : ∀ σ H Q, u σ H Q → t σ H Q) : PE X e u := ⟨fun pins s σ H Q I hw => h.run pins s σ H Q I (k σ H Q hw)⟩
theorem PT.weak {e : Expr} {t u : TT} (h : PT X e t) (k : ∀ σ H Q, u σ H Q → t σ H Q) : PT X e u := ⟨fun pins s σ H Q I hw => h.run pins s σ H Q I (k σ H Q hw)⟩
theorem PW.weak {e : Expr} {t u : TT} (h : PW X e t) (k : ∀ σ H Q, u σ H Q → t σ H Q) : PW X e u := ⟨fun wh pins s σ H Q I hw => h.run wh pins s σ H Q I (k σ H Q hw)⟩
theorem PA.weak {e : List Expr} {t u : TA} (h : PA X e t) (k : ∀ σ H Q, u σ H Q → t σ H Q) : PA X e u := ⟨fun pos pins s σ H Q I hw => h.run pos pins s σ H Q I (k σ H Q hw)⟩
theorem PO.weak {e : Option Expr} {t u : TO} (h : PO X e t) (k : ∀ σ H Q, u σ H Q → t σ H Q) : PO X e u := ⟨fun pins s σ H Q I hw => h.run pins s σ H Q I (k σ H Q hw)⟩
theorem PI.weak {tg e : Expr} {t u : TI} (h : PI X tg e t) (k : ∀ σ H R, u σ H R → t σ H R) : PI X tg e u := ⟨fun pins s σ H Q I hw => h.run pins s σ H Q I (k σ H Q hw)⟩
theorem PG.weak {e : Expr} {t u : TG} (h : PG X e t) (k : ∀ v σ H Q, u v σ H Q → t v σ H Q) : PG X e u := ⟨fun pins s σ H v w Q I r hw => h.run pins s σ H v w Q I r (k v σ H Q hw)⟩
theorem PGs.weak {e : List Expr} {t u : TGs} (h : PGs X e t) (k : ∀ v σ H Q, u v σ H Q → t v σ H Q) : PGs X e u := ⟨fun pins s σ H v w Q I r hw => h.run pins s σ H v w Q I r (k v σ H Q hw)⟩
theorem PS.weak {e : Stmt} {t u : TS} (h : PS X e t) (k : ∀ D σ H, u D σ H → t D σ H) : PS X e u := ⟨fun pins s σ H D I hw => h.run pins s σ H D I (k D σ H hw)⟩
theorem PSs.weak {e : List Stmt} {t u : TS} (h : PSs X e t) (k : ∀ D σ H, u D σ H → t D σ H) : PSs X e u := ⟨fun pins s σ H D I hw => h.run pins s σ H D I (k D σ H hw)⟩
theorem PTs.weak {e : List Expr} {t u : TT} (h : PTs X e t) (k : ∀ σ H Q, u σ H Q → t σ H Q) : PTs X e u := ⟨fun pins s σ H Q I hw => h.run pins s σ H Q I (k σ H Q hw)⟩

/-! ### expressions -/
variable {a b c : Expr} {ca cb cc : IR} {pos : Pos}
theorem d_var {i : Nat} {x : Str} (hN : X.N[i]? = some x) (hv : Vis X.env.scope x) (hd : (x == ("__debug__" : Str)) = false) (hcd : (x == ("__classdict__" : Str)) = false) : PE X (.Name x pos) (DE (wd X T cls) Wx (.var i)) :=
  PE.weak (pe_var hN hv hd hcd) fun σ H Q h => by
    obtain ⟨S, δ, QM, QX, rfl, R, hE, hw, hq, hx⟩ := h
    simp only [wpE] at hw
    split at hw
    · rename_i d e
      obtain ⟨v, ev, r⟩ := hE.2 i d e
      exact ⟨v, ev, hq S d v (.refl _) R r hw⟩
    · exact hw.elim
theorem d_con {e : Expr} {d : D} {v : V} (h : PE X e (tC v)) (hr : ∀ w, Rep X.K w d v) : PE X e (DE (wd X T cls) Wx (.con d)) :=
  PE.weak h fun σ H Q h => by
    obtain ⟨S, δ, QM, QX, rfl, R, hE, hw, hq, hx⟩ := h
    exact hq S d v (.refl _) R (hr _) hw
theorem d_glb {e : Expr} {x : Str} {d : D} {v : V} (h : PE X e (tC v)) (hr : ∀ w, Rep X.K w d v) : PE X e (DE (wd X T cls) Wx (.glb x d)) :=
  PE.weak h fun σ H Q h => by
    obtain ⟨S, δ, QM, QX, rfl, R, hE, hw, hq, hx⟩ := h
    exact hq S d v (.refl _) R (hr _) hw
theorem d_bty {e : Expr} {n : String} (h : PE X e (tC (.ty n))) : PE X e (DE (wd X T cls) Wx (.bty n)) :=
  PE.weak h fun σ H Q h => by
    obtain ⟨S, δ, QM, QX, rfl, R, hE, hw, hq, hx⟩ := h
    exact hq S (.ty n) _ (.refl _) R rfl hw
theorem d_bin {o : Operator} (ha : PE X a (DE (wd X T cls) Wx ca)) (hb : PE X b (DE (wd X T cls) Wx cb)) : PE X (.BinOp a o b pos) (DE (wd X T cls) Wx (.bin o ca cb)) :=
  PE.weak (pe_op (bin_ok (T := T) (cls := cls)) ha hb) fun σ H Q h => by
    obtain ⟨S, δ, QM, QX, rfl, R, hE, hw, hq, hx⟩ := h
    simp only [wpE] at hw
    exact ⟨S, δ, _, QX, rfl, R, hE, hw, fun S1 d1 v1 l1 R1 r1 w1 => ⟨S1, δ, _, QX, rfl, R1, hE.mono l1.1, w1, fun S2 d2 v2 l2 R2 r2 w2 => ⟨S2, d1, d2, QM, rfl, R2, r1.mono l2.1, r2, w2, hq.le (l1.trans l2)⟩, hx.le l1⟩, hx⟩
theorem d_neg (ha : PE X a (DE (wd X T cls) Wx ca)) : PE X (.UnaryOp .USub a pos) (DE (wd X T cls) Wx (.neg ca)) :=
  PE.weak (pe_un un_neg ha) fun σ H Q h => by
    obtain ⟨S, δ, QM, QX, rfl, R, hE, hw, hq, hx⟩ := h
    simp only [wpE] at hw
    refine ⟨S, δ, _, QX, rfl, R, hE, hw, fun S1 d1 v1 l1 R1 r1 w1 => ?_, hx⟩
    dsimp only at w1 ⊢
    split at w1
    · exact ⟨_, r1, hq S1 (.int _) _ l1 R1 rfl w1⟩
    · exact w1.elim
theorem d_cmp {o : CmpOp} {k : Nat} (hr : Room k X.A) (ha : PE X a (DE (wd X T cls) Wx ca)) (hb : PE X b (DE (wd X T cls) Wx cb)) (hm : behindInMarks o b = false) : PE X (.Compare a [o] [b] pos) (DE (wd X T cls) Wx (.cmp o ca cb)) :=
  PE.weak (pe_cmpR (cmp_ok (T := T) (cls := cls) (by have := hr.un; omega)) ha hb hm) fun σ H Q h => by
    obtain ⟨S, δ, QM, QX, rfl, R, hE, hw, hq, hx⟩ := h
    simp only [wpE] at hw
    exact ⟨S, δ, _, QX, rfl, R, hE, hw, fun S1 d1 v1 l1 R1 r1 w1 => ⟨S1, δ, _, QX, rfl, R1, hE.mono l1.1, w1, fun S2 d2 v2 l2 R2 r2 w2 => ⟨S2, d1, d2, _, rfl, R2, r1.mono l2.1, r2, w2, fun b q => hq S2 (.bl b) (.bl b) (l1.trans l2) R2 rfl q⟩, hx.le l1⟩, hx⟩
theorem t_cmp {o : CmpOp} {k : Nat} (hr : Room k X.A) (ha : PE X a (DE (wd X T cls) Wx ca)) (hb : PE X b (DE (wd X T cls) Wx cb)) (hm : behindInMarks o b = false) : PT X (.Compare a [o] [b] pos) (DT (wd X T cls) Wx (.cmp o ca cb)) :=
  PT.weak (pt_cmpR (cmp_ok (T := T) (cls := cls) (by have := hr.un; omega)) ha hb hm) fun σ H Q h => by
    obtain ⟨S, δ, QM, QX, rfl, R, hE, hw, hq, hx⟩ := h
    simp only [wpT] at hw
    exact ⟨S, δ, _, QX, rfl, R, hE, hw, fun S1 d1 v1 l1 R1 r1 w1 => ⟨S1, δ, _, QX, rfl, R1, hE.mono l1.1, w1, fun S2 d2 v2 l2 R2 r2 w2 => ⟨S2, d1, d2, _, rfl, R2, r1.mono l2.1, r2, w2, fun b q => ⟨b, rfl, hq S2 b (l1.trans l2) R2 q⟩⟩, hx.le l1⟩, hx⟩
theorem d_chn {o o' : CmpOp} {k : Nat} (hr : Room k X.A) (ha : PE X a (DE (wd X T cls) Wx ca)) (hb : PE X b (DE (wd X T cls) Wx cb)) (hc : PE X c (DE (wd X T cls) Wx cc)) (hm : lastMarks [o, o'] [b, c] = false) :
    PE X (.Compare a [o, o'] [b, c] pos) (DE (wd X T cls) Wx (.chn o o' ca cb cc)) :=
  PE.weak (pe_chain (cmp_ok (T := T) (cls := cls) (by have := hr.un; omega)) (cmp_ok (T := T) (cls := cls) (by have := hr.un; omega)) ha hb hc hm) fun σ H Q h => by
    obtain ⟨S, δ, QM, QX, rfl, R, hE, hw, hq, hx⟩ := h
    simp only [wpE] at hw
    refine ⟨S, δ, _, QX, rfl, R, hE, hw, fun S1 d1 v1 l1 R1 r1 w1 => ⟨S1, δ, _, QX, rfl, R1, hE.mono l1.1, w1, fun S2 d2 v2 l2 R2 r2 w2 => ⟨S2, d1, d2, _, rfl, R2, r1.mono l2.1, r2, w2, fun r q => ⟨r, rfl, ?_⟩⟩, hx.le l1⟩, hx⟩
    try dsimp only at q ⊢
    cases r with
    | true =>
      rw [if_pos rfl] at q ⊢
      exact ⟨S2, δ, _, QX, rfl, R2, hE.mono (l1.trans l2).1, q, fun S3 d3 v3 l3 R3 r3 w3 => ⟨S3, d2, d3, _, rfl, R3, r2.mono l3.1, r3, w3, fun b q => hq S3 (.bl b) (.bl b) ((l1.trans l2).trans l3) R3 rfl q⟩, hx.le (l1.trans l2)⟩
    | false =>
      rw [if_neg Bool.false_ne_true] at q ⊢
      exact hq S2 (.bl false) _ (l1.trans l2) R2 rfl q
theorem t_chn {o o' : CmpOp} {k : Nat} (hr : Room k X.A) (ha : PE X a (DE (wd X T cls) Wx ca)) (hb : PE X b (DE (wd X T cls) Wx cb)) (hc : PE X c (DE (wd X T cls) Wx cc)) (hm : lastMarks [o, o'] [b, c] = false) :
    PT X (.Compare a [o, o'] [b, c] pos) (DT (wd X T cls) Wx (.chn o o' ca cb cc)) :=
  PT.weak (pt_chain (cmp_ok (T := T) (cls := cls) (by have := hr.un; omega)) (cmp_ok (T := T) (cls := cls) (by have := hr.un; omega)) ha hb hc hm) fun σ H Q h => by
    obtain ⟨S, δ, QM, QX, rfl, R, hE, hw, hq, hx⟩ := h
    simp only [wpT] at hw
    refine ⟨S, δ, _, QX, rfl, R, hE, hw, fun S1 d1 v1 l1 R1 r1 w1 => ⟨S1, δ, _, QX, rfl, R1, hE.mono l1.1, w1, fun S2 d2 v2 l2 R2 r2 w2 => ⟨S2, d1, d2, _, rfl, R2, r1.mono l2.1, r2, w2, fun r q => ⟨r, rfl, ?_⟩⟩, hx.le l1⟩, hx⟩
    try dsimp only at q ⊢
    cases r with
    | true =>
      rw [if_pos rfl] at q ⊢
      exact ⟨S2, δ, _, QX, rfl, R2, hE.mono (l1.trans l2).1, q, fun S3 d3 v3 l3 R3 r3 w3 => ⟨S3, d2, d3, _, rfl, R3, r2.mono l3.1, r3, w3, fun b q => ⟨b, rfl, hq S3 b ((l1.trans l2).trans l3) R3 q⟩⟩, hx.le (l1.trans l2)⟩
    | false =>
      rw [if_neg Bool.false_ne_true] at q ⊢
      exact ⟨false, rfl, hq S2 false (l1.trans l2) R2 q⟩
theorem d_one {op : BoolOp} (ha : PE X a (DE (wd X T cls) Wx ca)) : PE X (.BoolOp op [a] pos) (DE (wd X T cls) Wx (.one ca)) :=
  PE.weak (pe_one ha) fun σ H Q h => by
    obtain ⟨S, δ, QM, QX, rfl, R, hE, hw, hq, hx⟩ := h
    simp only [wpE] at hw
    exact ⟨S, δ, QM, QX, rfl, R, hE, hw, hq, hx⟩
variable {es : List Expr}
theorem d_and (ha : PE X a (DE (wd X T cls) Wx ca)) (hb : PE X (.BoolOp .And (b :: es) pos) (DE (wd X T cls) Wx cb)) : PE X (.BoolOp .And (a :: b :: es) pos) (DE (wd X T cls) Wx (.andV ca cb)) :=
  PE.weak (pe_and ha hb) fun σ H Q h => by
    obtain ⟨S, δ, QM, QX, rfl, R, hE, hw, hq, hx⟩ := h
    simp only [wpE] at hw
    refine ⟨S, δ, _, QX, rfl, R, hE, hw, fun S1 d1 v1 l1 R1 r1 w1 => ?_, hx⟩
    dsimp only at w1 ⊢
    split at w1
    · rename_i k
      refine ⟨k, r1, ?_⟩
      cases k with
      | true =>
        rw [if_pos rfl] at w1 ⊢
        exact ⟨S1, δ, QM, QX, rfl, R1, hE.mono l1.1, w1, hq.le l1, hx.le l1⟩
      | false =>
        rw [if_neg Bool.false_ne_true] at w1 ⊢
        exact hq S1 (.bl false) _ l1 R1 rfl w1
    · exact w1.elim
theorem d_or (ha : PE X a (DE (wd X T cls) Wx ca)) (hb : PE X (.BoolOp .Or (b :: es) pos) (DE (wd X T cls) Wx cb)) : PE X (.BoolOp .Or (a :: b :: es) pos) (DE (wd X T cls) Wx (.orV ca cb)) :=
  PE.weak (pe_or ha hb) fun σ H Q h => by
    obtain ⟨S, δ, QM, QX, rfl, R, hE, hw, hq, hx⟩ := h
    simp only [wpE] at hw
    refine ⟨S, δ, _, QX, rfl, R, hE, hw, fun S1 d1 v1 l1 R1 r1 w1 => ?_, hx⟩
    dsimp only at w1 ⊢
    split at w1
    · rename_i k
      refine ⟨k, r1, ?_⟩
      cases k with
      | true =>
        rw [if_pos rfl] at w1 ⊢
        exact hq S1 (.bl true) _ l1 R1 rfl w1
      | false =>
        rw [if_neg Bool.false_ne_true] at w1 ⊢
        exact ⟨S1, δ, QM, QX, rfl, R1, hE.mono l1.1, w1, hq.le l1, hx.le l1⟩
    · exact w1.elim
theorem d_not (ha : PE X a (DE (wd X T cls) Wx ca)) : PE X (.UnaryOp .Not a pos) (DE (wd X T cls) Wx (.notV ca)) :=
  PE.weak (pe_not ha) fun σ H Q h => by
    obtain ⟨S, δ, QM, QX, rfl, R, hE, hw, hq, hx⟩ := h
    simp only [wpE] at hw
    refine ⟨S, δ, _, QX, rfl, R, hE, hw, fun S1 d1 v1 l1 R1 r1 w1 => ?_, hx⟩
    dsimp only at w1 ⊢
    split at w1
    · exact ⟨_, r1, hq S1 (.bl _) _ l1 R1 rfl w1⟩
    · exact w1.elim
theorem d_ife (hc : PT X c (DT (wd X T cls) Wx cc)) (ha : PE X a (DE (wd X T cls) Wx ca)) (hb : PE X b (DE (wd X T cls) Wx cb)) : PE X (.IfExp c a b pos) (DE (wd X T cls) Wx (.ife cc ca cb)) :=
  PE.weak (pe_ifExp hc ha hb) fun σ H Q h => by
    obtain ⟨S, δ, QM, QX, rfl, R, hE, hw, hq, hx⟩ := h
    simp only [wpE] at hw
    refine ⟨S, δ, _, QX, rfl, R, hE, hw, fun S1 k l1 R1 w1 => ?_, hx⟩
    dsimp only at w1 ⊢
    cases k with
    | true =>
      rw [if_pos rfl] at w1 ⊢
      exact ⟨S1, δ, QM, QX, rfl, R1, hE.mono l1.1, w1, hq.le l1, hx.le l1⟩
    | false =>
      rw [if_neg Bool.false_ne_true] at w1 ⊢
      exact ⟨S1, δ, QM, QX, rfl, R1, hE.mono l1.1, w1, hq.le l1, hx.le l1⟩
theorem d_ix (ha : PE X a (DE (wd X T cls) Wx ca)) (hb : PE X b (DE (wd X T cls) Wx cb)) (hs : PlainIx b) : PE X (.Subscript a b pos) (DE (wd X T cls) Wx (.ix ca cb)) :=
  PE.weak (pe_ix (ix_ok (T := T) (cls := cls)) ha hb hs) fun σ H Q h => by
    obtain ⟨S, δ, QM, QX, rfl, R, hE, hw, hq, hx⟩ := h
    simp only [wpE] at hw
    exact ⟨S, δ, _, QX, rfl, R, hE, hw, fun S1 d1 v1 l1 R1 r1 w1 => ⟨S1, δ, _, QX, rfl, R1, hE.mono l1.1, w1, fun S2 d2 v2 l2 R2 r2 w2 => ⟨S2, d1, d2, QM, rfl, R2, r1.mono l2.1, r2, w2, hq.le (l1.trans l2)⟩, hx.le l1⟩, hx⟩
theorem d_onone : PO X none (DO (wd X T cls) Wx .nop) :=
  PO.weak po_none fun σ H Q h => by
    obtain ⟨S, δ, QM, QX, rfl, R, hE, hw, hq, hx⟩ := h
    exact hq S none (.refl _) R hw
theorem d_osome (hn : ca ≠ .nop) (ha : PE X a (DE (wd X T cls) Wx ca)) : PO X (some a) (DO (wd X T cls) Wx ca) :=
  PO.weak (po_some ha) fun σ H Q h => by
    obtain ⟨S, δ, QM, QX, rfl, R, hE, hw, hq, hx⟩ := h
    have hw2 : wpE ca δ S.μ (fun d μ' => match d with | .int i => QM (some i) μ' | _ => False) QX := by
      unfold wpOpt at hw
      split at hw
      · exact absurd rfl hn
      · exact hw
    refine ⟨S, δ, _, QX, rfl, R, hE, hw2, fun S1 d1 v1 l1 R1 r1 w1 => ?_, hx⟩
    dsimp only at w1 ⊢
    split at w1
    · exact ⟨_, r1, hq S1 _ l1 R1 w1⟩
    · exact w1.elim
variable {lo hi : Option Expr} {cl ch : IR} {p2 : Pos}
theorem d_sl (ha : PE X a (DE (wd X T cls) Wx ca)) (hl : PO X lo (DO (wd X T cls) Wx cl)) (hh : PO X hi (DO (wd X T cls) Wx ch)) : PE X (.Subscript a (.Slice lo hi none p2) pos) (DE (wd X T cls) Wx (.sl ca cl ch)) :=
  PE.weak (pe_slice (sl_ok (T := T) (cls := cls)) ha hl hh) fun σ H Q h => by
    obtain ⟨S, δ, QM, QX, rfl, R, hE, hw, hq, hx⟩ := h
    simp only [wpE] at hw
    exact ⟨S, δ, _, QX, rfl, R, hE, hw, fun S1 d1 v1 l1 R1 r1 w1 => ⟨S1, δ, _, QX, rfl, R1, hE.mono l1.1, w1, fun S2 o2 l2 R2 w2 => ⟨S2, δ, _, QX, rfl, R2, hE.mono (l1.trans l2).1, w2, fun S3 o3 l3 R3 w3 =>
      ⟨S3, d1, QM, rfl, R3, r1.mono (l2.trans l3).1, w3, hq.le ((l1.trans l2).trans l3)⟩, hx.le (l1.trans l2)⟩, hx.le l1⟩, hx⟩

/-! ### argument lists, displays, calls -/
theorem d_anil : PA X [] (DA (wd X T cls) Wx .nil) :=
  PA.weak pa_nil fun σ H Q h => by
    obtain ⟨S, δ, QM, QX, rfl, R, hE, hw, hq, hx⟩ := h
    simp only [wpA] at hw
    exact hq S [] [] (.refl _) R rfl hw
theorem d_acons (ha : PE X a (DE (wd X T cls) Wx ca)) (hb : PA X es (DA (wd X T cls) Wx cb)) (hs : starEach (a :: es) X.env = (false, eval a X.env) :: starEach es X.env) : PA X (a :: es) (DA (wd X T cls) Wx (.cons ca cb)) :=
  PA.weak (pa_cons ha hb hs) fun σ H Q h => by
    obtain ⟨S, δ, QM, QX, rfl, R, hE, hw, hq, hx⟩ := h
    simp only [wpA] at hw
    exact ⟨S, δ, _, QX, rfl, R, hE, hw, fun S1 d1 v1 l1 R1 r1 w1 => ⟨S1, δ, _, QX, rfl, R1, hE.mono l1.1, w1, fun S2 ds vs l2 R2 r2 w2 => hq S2 (d1 :: ds) (v1 :: vs) (l1.trans l2) R2 ⟨v1, vs, rfl, r1.mono l2.1, r2⟩ w2, hx.le l1⟩, hx⟩
theorem d_tup {k : Nat} (h : PA X es (DA (wd X T cls) Wx ca)) : PE X (.Tuple es k pos) (DE (wd X T cls) Wx (.tupC ca)) :=
  PE.weak (pe_tup h) fun σ H Q h => by
    obtain ⟨S, δ, QM, QX, rfl, R, hE, hw, hq, hx⟩ := h
    simp only [wpE] at hw
    exact ⟨S, δ, _, QX, rfl, R, hE, hw, fun S1 ds vs l1 R1 r1 w1 => ⟨by rw [r1.length]; exact w1.1, fresh_tup R1 r1 w1.2 (hq.le l1)⟩, hx⟩
theorem d_lst (h : PA X es (DA (wd X T cls) Wx ca)) : PE X (.List es pos) (DE (wd X T cls) Wx (.lstC ca)) :=
  PE.weak (pe_lst h) fun σ H Q h => by
    obtain ⟨S, δ, QM, QX, rfl, R, hE, hw, hq, hx⟩ := h
    simp only [wpE] at hw
    exact ⟨S, δ, _, QX, rfl, R, hE, hw, fun S1 ds vs l1 R1 r1 w1 => ⟨by rw [r1.length]; exact w1.1, fresh_lst R1 r1 w1.2 (hq.le l1)⟩, hx⟩
theorem new_cell {W : Wd} {S : Ss} {p : Addr} {o : HO} {c : Cell} (R : Rl W S) (hp : S.H p = none) (n : CellOk W ⟨hid S, newρ S.ρ S.μ.next p, S.μ.next + 1⟩ (upd S.H p o) p c) :
    Ss.le S { S with ρ := newρ S.ρ S.μ.next p, μ := S.μ.new c, H := upd S.H p o } ∧ Rl W { S with ρ := newρ S.ρ S.μ.next p, μ := S.μ.new c, H := upd S.H p o } :=
  R.new hp (fun a ha _ => upd_ne ha) (Ext.of_ex fun a u h => by
    have h1 := hid_ex h
    rw [upd_ne (ne_of_none h1 hp)]
    exact h1) n
theorem vw_new {S : Ss} {p : Addr} (n : Nat) (hn : n = S.μ.next) : S.vw.le ⟨hid S, newρ S.ρ n p, n + 1⟩ := by
  subst hn
  exact ⟨Ext.refl _, fun k hk => newρ_ne (Nat.ne_of_lt hk), Nat.le_succ _⟩
theorem d_lstM (h : PA X es (DA (wd X T cls) Wx ca)) : PE X (.List es pos) (DE (wd X T cls) Wx (.lstM ca)) :=
  PE.weak (pe_lst h) fun σ H Q h => by
    obtain ⟨S, δ, QM, QX, rfl, R, hE, hw, hq, hx⟩ := h
    simp only [wpE] at hw
    refine ⟨S, δ, _, QX, rfl, R, hE, hw, fun S1 ds vs l1 R1 r1 w1 => ⟨by rw [r1.length]; exact w1.1, fun p hp => ?_⟩, hx⟩
    obtain ⟨l, R2⟩ := new_cell (c := .lst ds) (o := .lst vs) R1 hp ⟨vs, upd_same, r1.mono (vw_new _ rfl)⟩
    exact hq _ (.obj S1.μ.next) _ (l1.trans l) R2 ⟨Nat.lt_succ_self _, by show V.ref p = .ref (newρ S1.ρ S1.μ.next p S1.μ.next); rw [newρ_same]⟩ w1.2
theorem d_frz (ha : PE X a (DE (wd X T cls) Wx ca)) : PE X a (DE (wd X T cls) Wx (.frz ca)) :=
  PE.weak ha fun σ H Q h => by
    obtain ⟨S, δ, QM, QX, rfl, R, hE, hw, hq, hx⟩ := h
    simp only [wpE] at hw
    refine ⟨S, δ, _, QX, rfl, R, hE, hw, fun S1 d1 v1 l1 R1 r1 w1 => ?_, hx⟩
    dsimp only at w1 ⊢
    split at w1
    · rename_i k
      split at w1
      · rename_i ds e
        obtain ⟨xs, e1, r2⟩ := R1.ok _ _ e
        obtain ⟨l2, R2⟩ := R1.del (k := k)
        refine hq { S1 with μ := S1.μ.del k } (.lst ds) v1 (l1.trans l2) R2 ⟨S1.ρ k, xs, r1.2, hid_some.mpr ⟨e1, ?_⟩, r2.mono l2.1⟩ w1
        rintro (⟨j, d, h1, h2⟩ | ⟨o, h1⟩)
        · have h1 : (S1.μ.del k).cell j = some d := h1
          by_cases hj : j = k
          · rw [hj, Sto.del_same] at h1
            cases h1
          · rw [Sto.del_ne hj] at h1
            exact hj (R1.inj j k d _ h1 e h2)
        · exact (R1.prv _ o h1).2 k _ e rfl
      · exact w1.elim
    · exact w1.elim
/-- what a call, by values, does -/
def RCd (W : Wd) (Wx : WX) (σ : L2.St) (sp : Spec) : List V → Hp → VK → Prop := fun vs H Q => ∃ S ds QM QX, S.H = H ∧ Rl W S ∧ Reps W.K S.vw ds vs ∧ sp ds S.μ QM QX ∧ After W S QM Q ∧ AfterX W S QX (WE Wx σ)

/-! ### tests -/
theorem t_val (ha : PE X a (DE (wd X T cls) Wx ca)) (he : ∀ whole, isTrue a X.env whole = (do let v ← whole; standAt a.pos; holding [v] (truthy v))) : PT X a (DT (wd X T cls) Wx (.tV ca)) :=
  PT.weak (pt_truth ha he) fun σ H Q h => by
    obtain ⟨S, δ, QM, QX, rfl, R, hE, hw, hq, hx⟩ := h
    simp only [wpT] at hw
    refine ⟨S, δ, _, QX, rfl, R, hE, hw, fun S1 d1 v1 l1 R1 r1 w1 => ?_, hx⟩
    obtain ⟨k, hk, q⟩ := tru_rep R1 r1 w1
    exact ⟨k, hk, hq S1 k l1 R1 q⟩
theorem t_not (h : PT X a (DT (wd X T cls) Wx ca)) : PT X (.UnaryOp .Not a pos) (DT (wd X T cls) Wx (.tNot ca)) :=
  PT.weak (pt_not h) fun σ H Q h => by
    obtain ⟨S, δ, QM, QX, rfl, R, hE, hw, hq, hx⟩ := h
    simp only [wpT] at hw
    exact ⟨S, δ, _, QX, rfl, R, hE, hw, fun S1 k l1 R1 w1 => hq S1 (!k) l1 R1 w1, hx⟩
theorem t_and1 (h : PT X a (DT (wd X T cls) Wx ca)) : PW X (.BoolOp .And [a] pos) (DT (wd X T cls) Wx (.tOne ca)) :=
  PW.weak (pw_and1 h) fun σ H Q h => by
    obtain ⟨S, δ, QM, QX, rfl, R, hE, hw, hq, hx⟩ := h
    simp only [wpT] at hw
    exact ⟨S, δ, QM, QX, rfl, R, hE, hw, hq, hx⟩
theorem t_or1 (h : PT X a (DT (wd X T cls) Wx ca)) : PW X (.BoolOp .Or [a] pos) (DT (wd X T cls) Wx (.tOne ca)) :=
  PW.weak (pw_or1 h) fun σ H Q h => by
    obtain ⟨S, δ, QM, QX, rfl, R, hE, hw, hq, hx⟩ := h
    simp only [wpT] at hw
    exact ⟨S, δ, QM, QX, rfl, R, hE, hw, hq, hx⟩
theorem t_and (h : PT X a (DT (wd X T cls) Wx ca)) (hb : PW X (.BoolOp .And (b :: es) pos) (DT (wd X T cls) Wx cb)) : PW X (.BoolOp .And (a :: b :: es) pos) (DT (wd X T cls) Wx (.tAnd ca cb)) :=
  PW.weak (pw_and h hb) fun σ H Q h => by
    obtain ⟨S, δ, QM, QX, rfl, R, hE, hw, hq, hx⟩ := h
    simp only [wpT] at hw
    refine ⟨S, δ, _, QX, rfl, R, hE, hw, fun S1 k l1 R1 w1 => ?_, hx⟩
    dsimp only at w1 ⊢
    cases k with
    | true =>
      rw [if_pos rfl] at w1 ⊢
      exact ⟨S1, δ, QM, QX, rfl, R1, hE.mono l1.1, w1, hq.le l1, hx.le l1⟩
    | false =>
      rw [if_neg Bool.false_ne_true] at w1 ⊢
      exact hq S1 false l1 R1 w1
theorem t_or (h : PT X a (DT (wd X T cls) Wx ca)) (hb : PW X (.BoolOp .Or (b :: es) pos) (DT (wd X T cls) Wx cb)) : PW X (.BoolOp .Or (a :: b :: es) pos) (DT (wd X T cls) Wx (.tOr ca cb)) :=
  PW.weak (pw_or h hb) fun σ H Q h => by
    obtain ⟨S, δ, QM, QX, rfl, R, hE, hw, hq, hx⟩ := h
    simp only [wpT] at hw
    refine ⟨S, δ, _, QX, rfl, R, hE, hw, fun S1 k l1 R1 w1 => ?_, hx⟩
    dsimp only at w1 ⊢
    cases k with
    | true =>
      rw [if_pos rfl] at w1 ⊢
      exact hq S1 true l1 R1 w1
    | false =>
      rw [if_neg Bool.false_ne_true] at w1 ⊢
      exact ⟨S1, δ, QM, QX, rfl, R1, hE.mono l1.1, w1, hq.le l1, hx.le l1⟩
end
end M
end

section
set_option Elab.async false
set_option linter.all false
set_option maxRecDepth 100000
set_option maxHeartbeats 4000000
/-! M: what is walked, targets, statements, comprehensions. -/
namespace M
open PySem PySem.Spec PyProof.Rows L2

section
variable {X : Cx} {T : List Addr} {cls : Nat → Addr} {Wx : WX}
variable {a b c : Expr} {ca cb cc : IR} {pos : Pos} {es : List Expr} {tg : Expr}

/-! ### what is walked -/
theorem iter_list {W : Wd} {p : Addr} {ds : List D} {gd : Sto → Prop} {S0 : Ss} (h : ∀ S, S0.vw.le S.vw → Rl W S → gd S.μ → ∃ xs, SqL W.K S.H p xs ∧ Reps W.K S.vw ds xs) : IterD W (Itl W.K p) ds gd S0 := fun S l R g => by
  obtain ⟨xs, hs, hr⟩ := h S l R g
  refine ⟨⟨xs, hs, Nat.le_of_eq hr.length⟩, fun i hi => ⟨⟨xs, xs[i]'(by rw [hr.length]; exact hi), hs, List.getElem?_eq_getElem _⟩, fun x H' y => ?_⟩⟩
  obtain ⟨e, y⟩ := y
  obtain ⟨d, ed, rd⟩ := hr.get' (y xs hs)
  exact ⟨S, d, .refl _, R, e.symm, rfl, ed, rd⟩
theorem iter_tup {W : Wd} {p : Addr} {ds : List D} {gd : Sto → Prop} {S0 : Ss} (h : ∀ S, S0.vw.le S.vw → Rl W S → gd S.μ → ∃ xs, SqT W.K S.H p xs ∧ Reps W.K S.vw ds xs) : IterD W (Itt W.K p) ds gd S0 := fun S l R g => by
  obtain ⟨xs, hs, hr⟩ := h S l R g
  refine ⟨⟨xs, hs, Nat.le_of_eq hr.length⟩, fun i hi => ⟨⟨xs, xs[i]'(by rw [hr.length]; exact hi), hs, List.getElem?_eq_getElem _⟩, fun x H' y => ?_⟩⟩
  obtain ⟨e, y⟩ := y
  obtain ⟨d, ed, rd⟩ := hr.get' (y xs hs)
  exact ⟨S, d, .refl _, R, e.symm, rfl, ed, rd⟩
theorem intsD_length (lo : Int) (n : Nat) : (intsD lo n).length = n := by unfold intsD; rw [List.length_map, List.length_range]
theorem intsD_get {lo : Int} {n i : Nat} (h : i < n) : (intsD lo n)[i]? = some (.int (lo + i)) := by
  unfold intsD
  rw [List.getElem?_map, List.getElem?_range h]
  rfl
theorem iter_rng {W : Wd} {lo : Int} {n : Nat} {gd : Sto → Prop} {S0 : Ss} : IterD W (Itr lo n) (intsD lo n) gd S0 := fun S l R g => by
  rw [intsD_length]
  refine ⟨Nat.le_refl n, fun i hi => ⟨hi, fun x H' y => ?_⟩⟩
  obtain ⟨e, y⟩ := y
  exact ⟨S, .int (lo + i), .refl _, R, e.symm, rfl, intsD_get hi, y⟩
theorem iter_str {W : Wd} {z : Str} {gd : Sto → Prop} {S0 : Ss} : IterD W (Its z) (z.cps.toList.map fun c => D.str ⟨#[c]⟩) gd S0 := fun S l R g => by
  rw [List.length_map]
  refine ⟨?_, fun i hi => ⟨?_, fun x H' y => ?_⟩⟩
  · show z.cps.size ≤ z.cps.toList.length
    rw [Array.length_toList]
    exact Nat.le_refl _
  · show i < z.cps.size
    rw [Array.length_toList] at hi
    exact hi
  · obtain ⟨e, c, hc, y⟩ := y
    refine ⟨S, .str ⟨#[c]⟩, .refl _, R, e.symm, rfl, ?_, y⟩
    rw [List.getElem?_map, Array.getElem?_toList, hc]
    rfl
def iAny (K : PySem.W.Frag) (tl : TE) : TI := fun σ H R => tl σ H fun x H1 =>
  (∃ a, x = .ref a ∧ (∃ xs, SqL K H1 a xs) ∧ R (Itl K a) H1) ∨ (∃ a, x = .ref a ∧ (∃ xs, SqT K H1 a xs) ∧ R (Itt K a) H1) ∨ ∃ z, x = .str z ∧ R (Its z) H1
theorem pi_any {l : Expr} {tl : TE} (hl : PE X l tl) : PI X tg l (iAny X.K tl) := by
  refine ⟨fun pins s σ H R I h => ?_⟩
  refine thn (hl.run pins s σ H _ I h) fun v s1 ⟨x, H1, I1, r1, q1⟩ => ?_
  have lt : ∀ b ∈ [s1.heap.objs.size], FpOk X pins H1 b := fun b hb => by
    have e : b = s1.heap.objs.size := by simpa using hb
    subst e
    exact I1.fpOk (Nat.le_refl _) (I1.hok.fresh (Nat.le_refl _))
  rcases q1 with ⟨a, e, ⟨xs, hq⟩, q⟩ | ⟨a, e, ⟨xs, hq⟩, q⟩ | ⟨z, e, q⟩
  · subst e
    cases r1
    obtain ⟨its, rv, p, hz⟩ := I1.list hq
    refine wpAny_pyIter_list p.isList ?_
    exact ⟨s1.heap.objs.size, [s1.heap.objs.size], _, _, H1, rfl, I1.kept (t' := s1.toks) fun b o e => Heap.get?_push_of_some _ e, turn_list a _, ⟨_, Heap.get?_push_size _ rfl, rfl, rfl⟩, lt, q⟩
  · subst e
    cases r1
    obtain ⟨its, rv, p, hz⟩ := I1.tuple hq
    refine wpAny_pyIter_tuple (show s1.heap.IsTuple a its.toArray from p) ?_
    exact ⟨s1.heap.objs.size, [s1.heap.objs.size], _, _, H1, rfl, I1.kept (t' := s1.toks) fun b o e => Heap.get?_push_of_some _ e, turn_tuple a _, ⟨_, Heap.get?_push_size _ rfl, rfl, rfl⟩, lt, q⟩
  · subst e
    obtain ⟨t, rfl⟩ := r1
    cases ha : z.cps.all (· < 128)
    · exact wpAny_pyIter_wide ha (pi_one (tk := s1.toks) I1 _ (turn_str _ z t "str_iterator" (.inr rfl)) ⟨_, Heap.get?_push_size _ rfl, rfl, rfl⟩ q)
    · exact wpAny_pyIter_ascii ha (pi_one (tk := s1.toks) I1 _ (turn_str _ z t "str_ascii_iterator" (.inl rfl)) ⟨_, Heap.get?_push_size _ rfl, rfl, rfl⟩ q)
theorem i_val (ha : PE X a (DE (wd X T cls) Wx ca)) : PI X tg a (DI (wd X T cls) Wx (.itV ca)) :=
  PI.weak (pi_any ha) fun σ H KR h => by
    obtain ⟨S, δ, KI, QX, rfl, R, hE, hw, hq, hx⟩ := h
    simp only [wpI] at hw
    refine ⟨S, δ, _, QX, rfl, R, hE, hw, fun S1 d1 v1 l1 R1 r1 w1 => ?_, hx⟩
    dsimp only at w1 ⊢
    unfold itD at w1
    split at w1
    · obtain ⟨p, xs, e, s, rr⟩ := r1
      exact .inr (.inl ⟨p, e, ⟨xs, hid_ext.sqt s⟩, hq S1 _ _ _ l1 R1 (iter_tup fun S2 l2 R2 _ => ⟨xs, hid_ext.sqt (l2.1.sqt s), rr.mono l2⟩) w1⟩)
    · obtain ⟨p, xs, e, s, rr⟩ := r1
      exact .inl ⟨p, e, ⟨xs, SqL.of (hid_ex s)⟩, hq S1 _ _ _ l1 R1 (iter_list fun S2 l2 R2 _ => ⟨xs, SqL.of (hid_ex (l2.1.at s fun _ z => by cases z)), rr.mono l2⟩) w1⟩
    · obtain ⟨p, xs, e, s, rr⟩ := r1
      exact .inl ⟨p, e, ⟨xs, hid_ext.sql s⟩, hq S1 _ _ _ l1 R1 (iter_list fun S2 l2 R2 _ => ⟨xs, hid_ext.sql (l2.1.sql s), rr.mono l2⟩) w1⟩
    · exact .inr (.inr ⟨_, r1, hq S1 _ _ _ l1 R1 iter_str w1⟩)
    · rename_i k
      split at w1
      · rename_i ds e
        obtain ⟨xs, e1, rr⟩ := R1.ok _ _ e
        refine .inl ⟨S1.ρ k, r1.2, ⟨xs, SqL.of e1⟩, hq S1 _ _ _ l1 R1 (iter_list fun S2 l2 R2 g => ?_) w1⟩
        obtain ⟨ys, e2, r2⟩ := R2.ok _ _ g
        refine ⟨ys, SqL.of ?_, r2⟩
        have := l2.2.1 k r1.1
        rw [show S2.ρ k = S1.ρ k from this] at e2
        exact e2
      · exact w1.elim
    · exact w1.elim
theorem i_rng1 {p : Pos} (hg : Gl X "range") (hm : X.mg "range" = none) (ha : PE X a (DE (wd X T cls) Wx ca)) (hs : starEach [a] X.env = [(false, eval a X.env)]) :
    PI X tg (.Call (.Name "range" p) [a] [] pos) (DI (wd X T cls) Wx (.itR1 ca)) :=
  PI.weak (pi_range1 hg hm (pa_cons ha pa_nil hs) hs) fun σ H KR h => by
    obtain ⟨S, δ, KI, QX, rfl, R, hE, hw, hq, hx⟩ := h
    simp only [wpI] at hw
    refine ⟨S, δ, _, QX, rfl, R, hE, hw, fun S1 d1 v1 l1 R1 r1 w1 => ?_, hx⟩
    dsimp only at w1 ⊢
    split at w1
    · rename_i n
      exact ⟨n, by rw [show v1 = _ from r1], w1.1, w1.2.1, hq S1 _ _ _ l1 R1 iter_rng w1.2.2⟩
    · exact w1.elim
theorem i_rng2 {p : Pos} (hg : Gl X "range") (hm : X.mg "range" = none) (ha : PE X a (DE (wd X T cls) Wx ca)) (hb : PE X b (DE (wd X T cls) Wx cb)) (hs : starEach [a, b] X.env = [(false, eval a X.env), (false, eval b X.env)]) (hs2 : starEach [b] X.env = [(false, eval b X.env)]) :
    PI X tg (.Call (.Name "range" p) [a, b] [] pos) (DI (wd X T cls) Wx (.itR2 ca cb)) :=
  PI.weak (pi_range2 hg hm (pa_cons ha (pa_cons hb pa_nil hs2) (by rw [hs, hs2])) hs hs2) fun σ H KR h => by
    obtain ⟨S, δ, KI, QX, rfl, R, hE, hw, hq, hx⟩ := h
    simp only [wpI] at hw
    refine ⟨S, δ, _, QX, rfl, R, hE, hw, fun S1 d1 v1 l1 R1 r1 w1 => ⟨S1, δ, _, QX, rfl, R1, hE.mono l1.1, w1, fun S2 d2 v2 l2 R2 r2 w2 => ?_, hx.le l1⟩, hx⟩
    dsimp only at w2 ⊢
    split at w2
    · rename_i i j
      have e1 : v1 = .int i := r1
      have e2 : v2 = .int j := r2
      subst e1 e2
      exact ⟨i, j, rfl, w2.1, hq S2 _ _ _ (l1.trans l2) R2 iter_rng w2.2⟩
    · exact w2.elim

/-! ### targets -/
theorem g_name {i : Nat} {x : Str} (hN : X.N.Nodup) (hi : X.N[i]? = some x) (hx : Loc X.env.scope x) (hf : X.fn x = true ∨ X.env.scope.names.lookup x = some .local) : PG X (.Name x pos) (DG (wd X T cls) (.gN i)) :=
  PG.weak (pg_name hN hi hx hf) fun v σ H Q h => by
    obtain ⟨S, δ, d, QG, rfl, R, hE, r, hw, hq⟩ := h
    simp only [wpG] at hw
    refine hq S _ _ (.refl _) R (hE.set r) ⟨List.length_set .., fun j hj => ?_⟩ hw
    exact List.getElem?_set_ne (by simpa [slotsG] using fun z => hj (by simp [slotsG, z]))
theorem gs_nil : PGs X [] (DGs (wd X T cls) .nil) :=
  PGs.weak pgs_nil fun v σ H Q h => by
    obtain ⟨S, δ, ds, QG, rfl, R, hE, r, hw, hq⟩ := h
    simp only [wpGs] at hw
    obtain ⟨rfl, hw⟩ := hw
    exact ⟨r, hq S δ σ (.refl _) R hE ⟨rfl, fun _ _ => rfl⟩ hw⟩
theorem gs_cons {cg cr : IR} (h1 : PG X a (DG (wd X T cls) cg)) (h2 : PGs X es (DGs (wd X T cls) cr)) (hs : (assignEach (a :: es) X.env).map (·.2) = assign a X.env :: (assignEach es X.env).map (·.2)) : PGs X (a :: es) (DGs (wd X T cls) (.cons cg cr)) :=
  PGs.weak (pgs_cons h1 h2 hs) fun v σ H Q h => by
    obtain ⟨S, δ, ds, QG, rfl, R, hE, r, hw, hq⟩ := h
    simp only [wpGs] at hw
    split at hw
    · rename_i d ds
      obtain ⟨x, xr, rfl, rx, rr⟩ := r
      refine ⟨x, xr, rfl, S, δ, d, _, rfl, R, hE, rx, hw, fun S1 δ1 σ1 l1 R1 E1 a1 w1 => ⟨S1, δ1, ds, QG, rfl, R1, E1, rr.mono l1.1, w1, fun S2 δ2 σ2 l2 R2 E2 a2 w2 => hq S2 δ2 σ2 (l1.trans l2) R2 E2 ⟨a2.1.trans a1.1, fun j hj => ?_⟩ w2⟩⟩
      simp only [slotsG, List.mem_append, not_or] at hj
      exact (a2.2 j hj.2).trans (a1.2 j hj.1)
    · exact hw.elim
theorem g_tup {k n : Nat} {cg : IR} (hc : X.calm = true) (h : PGs X es (DGs (wd X T cls) cg)) (hn : (assignEach es X.env).length = n) (hst : (assignEach es X.env).findIdx? (·.1) = none) : PG X (.Tuple es k pos) (DG (wd X T cls) (.gT n cg)) :=
  PG.weak (pg_tup hc h hn hst) fun v σ H Q h => by
    obtain ⟨S, δ, d, QG, rfl, R, hE, r, hw, hq⟩ := h
    simp only [wpG] at hw
    split at hw
    · rename_i ds
      obtain ⟨p, xs, rfl, g, rr⟩ := r
      exact ⟨p, xs, rfl, hid_ext.sqt g, by rw [rr.length]; exact hw.1, S, δ, ds, QG, rfl, R, hE, rr, hw.2, fun S1 δ1 σ1 l1 R1 E1 a1 w1 => hq S1 δ1 σ1 l1 R1 E1 a1 w1⟩
    · exact hw.elim
theorem g_sub (ha : PE X a (DE (wd X T cls) Wx ca)) (hb : PE X b (DE (wd X T cls) Wx cb)) (hs : ∀ v, assign (.Subscript a b pos) X.env v = (do
      let ov ← holding [v] (eval a X.env)
      let iv ← holding [v, ov] (eval b X.env)
      standAt pos
      holding [v, ov, iv] (setItem ov iv v)
      release [v, ov, iv] [])) : PG X (.Subscript a b pos) (DG (wd X T cls) (.gSub ca cb)) :=
  PG.weak (pg_sub ha hb set_list hs) fun v σ H Q h => by
    obtain ⟨S, δ, d, QG, rfl, R, hE, r, hw, hq⟩ := h
    simp only [wpG] at hw
    refine ⟨S, δ, _, _, rfl, R, hE, hw, fun S1 d1 v1 l1 R1 r1 w1 => ⟨S1, δ, _, _, rfl, R1, hE.mono l1.1, w1, fun S2 d2 v2 l2 R2 r2 w2 => ?_, afx_no⟩, afx_no⟩
    dsimp only at w2 ⊢
    split at w2
    · rename_i k j
      split at w2
      · rename_i ds e
        split at w2
        · rename_i n en
          obtain ⟨xs, e1, rr⟩ := R2.ok _ _ e
          have rk := r1.mono l2.1
          have ej : v2 = .int j := r2
          subst ej
          obtain ⟨l3, R3⟩ := R2.put (k := k) (c' := .lst (ds.set n d)) (o := .lst (xs.set n v)) e ⟨_, upd_same, Reps.set n rr (r.mono (l1.trans l2).1)⟩
          exact ⟨S2.ρ k, xs, j, n, rk.2, rfl, e1, by rw [rr.length]; exact en, hq _ _ σ ((l1.trans l2).trans l3) R3 (hE.mono ((l1.trans l2).trans l3).1) ⟨rfl, fun _ _ => rfl⟩ w2⟩
        · exact w2.elim
      · exact w2.elim
    · exact w2.elim

/-! ### statements -/
variable {st : Stmt} {rest : List Stmt} {cs cr : IR}
theorem s_nil : PSs X [] (DS (wd X T cls) Wx .nil) :=
  PSs.weak pss_nil fun E σ H h => by
    obtain ⟨S, δ, O, rfl, R, hE, hw, C⟩ := h
    simp only [wpS] at hw
    exact C.nx S δ σ (.refl _) R hE hw
theorem s_seq (h1 : PS X st (DS (wd X T cls) Wx cs)) (h2 : PSs X rest (DS (wd X T cls) Wx cr)) : PSs X (st :: rest) (DS (wd X T cls) Wx (.seq cs cr)) :=
  PSs.weak (pss_cons h1 h2) fun E σ H h => by
    obtain ⟨S, δ, O, rfl, R, hE, hw, C⟩ := h
    simp only [wpS] at hw
    exact ⟨S, δ, _, rfl, R, hE, hw, ⟨fun S1 δ1 σ1 l1 R1 E1 w1 => ⟨S1, δ1, O, rfl, R1, E1, w1, C.le l1⟩, C.rt, C.bk, C.ct, C.xc⟩⟩
theorem s_asg {t e : Expr} {cg ce : IR} (he : PE X e (DE (wd X T cls) Wx ce)) (hg : PG X t (DG (wd X T cls) cg)) (hs : swapsWithSole [t] e pos.line X.env = pure false) (hw : swappedStores [t] e X.env = pure none)
    (h1 : (assignEach [t] X.env).map (·.2) = [assign t X.env]) : PS X (.Assign [t] e pos) (DS (wd X T cls) Wx (.asg cg ce)) :=
  PS.weak (ps_asg he hg hs hw h1) fun E σ H h => by
    obtain ⟨S, δ, O, rfl, R, hE, hw, C⟩ := h
    simp only [wpS] at hw
    exact ⟨S, δ, _, _, rfl, R, hE, hw, fun S1 d1 v1 l1 R1 r1 w1 => ⟨S1, δ, d1, O.nx, rfl, R1, hE.mono l1.1, r1, w1, fun S2 δ2 σ2 l2 R2 E2 a2 w2 => C.nx S2 δ2 σ2 (l1.trans l2) R2 E2 w2⟩, C.afx hE⟩
theorem s_exp {e : Expr} {ce : IR} (he : PE X e (DE (wd X T cls) Wx ce)) (hs : swapsWith e none pos.line X.env = pure false) : PS X (.Expr e pos) (DS (wd X T cls) Wx (.exp ce)) :=
  PS.weak (ps_expr he hs) fun E σ H h => by
    obtain ⟨S, δ, O, rfl, R, hE, hw, C⟩ := h
    simp only [wpS] at hw
    exact ⟨S, δ, _, _, rfl, R, hE, hw, fun S1 d1 v1 l1 R1 r1 w1 => C.nx S1 δ σ l1 R1 (hE.mono l1.1) w1, C.afx hE⟩
theorem s_ret {e : Expr} {ce : IR} (he : PE X e (DE (wd X T cls) Wx ce)) : PS X (.Return (some e) pos) (DS (wd X T cls) Wx (.ret ce)) :=
  PS.weak (ps_ret he) fun E σ H h => by
    obtain ⟨S, δ, O, rfl, R, hE, hw, C⟩ := h
    simp only [wpS] at hw
    exact ⟨S, δ, _, _, rfl, R, hE, hw, C.rt, C.afx hE⟩
theorem s_ret0 : PS X (.Return none pos) (DS (wd X T cls) Wx .ret0) :=
  PS.weak ps_retN fun E σ H h => by
    obtain ⟨S, δ, O, rfl, R, hE, hw, C⟩ := h
    simp only [wpS] at hw
    exact C.rt S .non _ (.refl _) R rfl hw
theorem s_if {t : Expr} {b1 b2 : List Stmt} {ct c1 c2 : IR} (ht : PT X t (DT (wd X T cls) Wx ct)) (h1 : PSs X b1 (DS (wd X T cls) Wx c1)) (h2 : PSs X b2 (DS (wd X T cls) Wx c2)) : PS X (.If t b1 b2 pos) (DS (wd X T cls) Wx (.ifS ct c1 c2)) :=
  PS.weak (ps_if ht h1 h2) fun E σ H h => by
    obtain ⟨S, δ, O, rfl, R, hE, hw, C⟩ := h
    simp only [wpS] at hw
    refine ⟨S, δ, _, _, rfl, R, hE, hw, fun S1 k l1 R1 w1 => ?_, C.afx hE⟩
    cases k with
    | true =>
      rw [if_pos rfl] at w1 ⊢
      exact ⟨S1, δ, O, rfl, R1, hE.mono l1.1, w1, C.le l1⟩
    | false =>
      rw [if_neg Bool.false_ne_true] at w1 ⊢
      exact ⟨S1, δ, O, rfl, R1, hE.mono l1.1, w1, C.le l1⟩
theorem s_brk : PS X (.Break pos) (DS (wd X T cls) Wx .brk) :=
  PS.weak ps_break fun E σ H h => by
    obtain ⟨S, δ, O, rfl, R, hE, hw, C⟩ := h
    simp only [wpS] at hw
    exact C.bk S δ σ (.refl _) R hE hw
theorem s_cnt : PS X (.Continue pos) (DS (wd X T cls) Wx .cnt) :=
  PS.weak ps_continue fun E σ H h => by
    obtain ⟨S, δ, O, rfl, R, hE, hw, C⟩ := h
    simp only [wpS] at hw
    exact C.ct S δ σ (.refl _) R hE hw
theorem s_pas : PS X (.Pass pos) (DS (wd X T cls) Wx .pas) :=
  PS.weak ps_pass fun E σ H h => by
    obtain ⟨S, δ, O, rfl, R, hE, hw, C⟩ := h
    simp only [wpS] at hw
    exact C.nx S δ σ (.refl _) R hE hw
theorem s_nev : PS X st (DS (wd X T cls) Wx .nev) :=
  PS.weak ps_never fun E σ H h => by
    obtain ⟨S, δ, O, rfl, R, hE, hw, C⟩ := h
    simp only [wpS] at hw
theorem s_whl {t : Expr} {b1 : List Stmt} {ct c1 : IR} (hp : PassesOwn (model X.prog X.w) X.A X.env X.xe) (ht : PT X t (DT (wd X T cls) Wx ct)) (h1 : PSs X b1 (DS (wd X T cls) Wx c1)) : PS X (.While t b1 [] pos) (DS (wd X T cls) Wx (.whl ct c1)) :=
  PS.weak (ps_while hp ht h1) fun E σ H h => by
    obtain ⟨S, δ, O, rfl, R, hE, hw, C⟩ := h
    simp only [wpS] at hw
    obtain ⟨n, hw⟩ := hw
    refine ⟨fun m σ' H' => ∃ S1 δ1, S1.H = H' ∧ S.le S1 ∧ Rl (wd X T cls) S1 ∧ EnvR (wd X T cls) S1.vw δ1 σ' ∧ loopW (fun δ μ Q => wpT ct δ μ Q (fun x μ' => O.xc x δ μ')) (fun δ μ N => wpS c1 δ μ { O with nx := N, ct := N, bk := O.nx }) O.nx m δ1 S1.μ,
      ⟨n, S, δ, rfl, .refl _, R, hE, hw⟩, ?_⟩
    rintro m σ' H' ⟨S1, δ1, rfl, l1, R1, E1, w1⟩
    cases m with
    | zero => exact w1.elim
    | succ m =>
      have w1 : wpT ct δ1 S1.μ (fun b μ' => if b = true then wpS c1 δ1 μ' _ else O.nx δ1 μ') (fun x μ' => O.xc x δ1 μ') := w1
      refine ⟨S1, δ1, _, _, rfl, R1, E1, w1, fun S2 k l2 R2 w2 => ?_, (C.le l1).afx E1⟩
      cases k with
      | true =>
        rw [if_pos rfl] at w2 ⊢
        refine ⟨_, fun σ3 H3 h => ⟨m, Nat.lt_succ_self m, h⟩, S2, δ1, _, rfl, R2, E1.mono l2.1, w2, ?_⟩
        have lx := l1.trans l2
        exact ⟨fun S3 δ3 σ3 l3 R3 E3 w3 => ⟨S3, δ3, rfl, lx.trans l3, R3, E3, w3⟩, C.rt.le lx, fun S3 δ3 σ3 l3 R3 E3 w3 => C.nx S3 δ3 σ3 (lx.trans l3) R3 E3 w3, fun S3 δ3 σ3 l3 R3 E3 w3 => ⟨S3, δ3, rfl, lx.trans l3, R3, E3, w3⟩, (C.le lx).xc⟩
      | false =>
        rw [if_neg Bool.false_ne_true] at w2 ⊢
        exact C.nx S2 δ1 σ' (l1.trans l2) R2 (E1.mono l2.1) w2
theorem s_for {t it : Expr} {b1 : List Stmt} {cg ci c1 : IR} (hp : PassesOwn (model X.prog X.w) X.A X.env X.xe) (hc : X.calm = true) (hi : PI X t it (DI (wd X T cls) Wx ci)) (hg : PG X t (DG (wd X T cls) cg)) (h1 : PSs X b1 (DS (wd X T cls) Wx c1))
    (hs : ∀ x, foldedSetIterable it X.env x = pure x) : PS X (.For t it b1 [] pos) (DS (wd X T cls) Wx (.fr cg ci c1)) :=
  PS.weak (ps_for hp hc hi hg h1 hs) fun E σ H h => by
    obtain ⟨S, δ, O, rfl, R, hE, hw, C⟩ := h
    simp only [wpS] at hw
    refine ⟨S, δ, _, _, rfl, R, hE, hw, fun S1 J ds gd l1 R1 hJ w1 => ?_, C.afx hE⟩
    refine ⟨fun i m σ' H' => ∃ S2 δ2, S2.H = H' ∧ S1.le S2 ∧ Rl (wd X T cls) S2 ∧ EnvR (wd X T cls) S2.vw δ2 σ' ∧ i ≤ ds.length ∧ m = ds.length - i ∧
        loopF (fun x δ μ N => wpG cg x δ μ fun δ' μ' => wpS c1 δ' μ' { O with nx := N, ct := N, bk := O.nx }) gd O.nx (ds.drop i) δ2 S2.μ,
      ⟨ds.length, S1, δ, rfl, .refl _, R1, hE.mono l1.1, Nat.zero_le _, rfl, w1⟩, ?_⟩
    rintro i m σ' H' ⟨S2, δ2, rfl, l2, R2, E2, hi, rfl, w2⟩
    by_cases hlt : i < ds.length
    · have ed : ds.drop i = ds[i] :: ds.drop (i + 1) := List.drop_eq_getElem_cons hlt
      rw [ed] at w2
      obtain ⟨g2, w2⟩ := w2
      obtain ⟨_, hgo⟩ := hJ S2 l2.1 R2 g2
      obtain ⟨go, hy⟩ := hgo i hlt
      refine .inr ⟨go, _, fun σ3 H3 h => h, fun x H3 y => ?_⟩
      obtain ⟨S3, d, l3, R3, rfl, em, e3, r3⟩ := hy x H3 y
      rw [List.getElem?_eq_getElem hlt] at e3
      cases e3
      have lx := (l1.trans l2).trans l3
      rw [← em] at w2
      refine ⟨S3, δ2, _, _, rfl, R3, E2.mono l3.1, r3, w2, fun S4 δ4 σ4 l4 R4 E4 _ w4 => ⟨S4, δ4, _, rfl, R4, E4, w4, ?_⟩⟩
      have ly := lx.trans l4
      have back : ∀ S5 δ5 σ5, S4.le S5 → Rl (wd X T cls) S5 → EnvR (wd X T cls) S5.vw δ5 σ5 → loopF (fun x δ μ N => wpG cg x δ μ fun δ' μ' => wpS c1 δ' μ' { O with nx := N, ct := N, bk := O.nx }) gd O.nx (ds.drop (i + 1)) δ5 S5.μ →
          ∃ m', m' < ds.length - i ∧ ∃ S2 δ2, S2.H = S5.H ∧ S1.le S2 ∧ Rl (wd X T cls) S2 ∧ EnvR (wd X T cls) S2.vw δ2 σ5 ∧ i + 1 ≤ ds.length ∧ m' = ds.length - (i + 1) ∧ loopF (fun x δ μ N => wpG cg x δ μ fun δ' μ' => wpS c1 δ' μ' { O with nx := N, ct := N, bk := O.nx }) gd O.nx (ds.drop (i + 1)) δ2 S2.μ :=
        fun S5 δ5 σ5 l5 R5 E5 w5 => ⟨ds.length - (i + 1), by omega, S5, δ5, rfl, ((l2.trans l3).trans l4).trans l5, R5, E5, hlt, rfl, w5⟩
      exact ⟨fun S5 δ5 σ5 l5 R5 E5 w5 => back S5 δ5 σ5 l5 R5 E5 w5, C.rt.le ly, fun S5 δ5 σ5 l5 R5 E5 w5 => C.nx S5 δ5 σ5 (ly.trans l5) R5 E5 w5, fun S5 δ5 σ5 l5 R5 E5 w5 => back S5 δ5 σ5 l5 R5 E5 w5, (C.le ly).xc⟩
    · have e : i = ds.length := by omega
      subst e
      rw [List.drop_length] at w2
      obtain ⟨g2, w2⟩ := w2
      exact .inl ⟨(hJ S2 l2.1 R2 g2).1, C.nx S2 δ2 σ' (l1.trans l2) R2 E2 w2⟩
end
end M
end

section
set_option Elab.async false
set_option linter.all false
set_option maxRecDepth 100000
set_option maxHeartbeats 4000000
/-! M: comprehensions, calls. -/
namespace M
open PySem PySem.Spec PyProof.Rows L2

theorem wipe_get (σ : L2.St) (j : Nat) : ∀ vs : List Nat, (wipe σ vs)[j]? = if j ∈ vs then (if j < σ.length then some none else none) else σ[j]?
  | [] => by simp [wipe]
  | v :: vs => by
    unfold wipe
    by_cases hv : v = j
    · subst hv
      rw [if_pos List.mem_cons_self]
      by_cases hl : v < σ.length
      · rw [if_pos hl, List.getElem?_set_self (by rw [wipe_length]; exact hl)]
      · rw [if_neg hl, List.getElem?_eq_none (by rw [List.length_set, wipe_length]; omega)]
    · rw [List.getElem?_set_ne hv, wipe_get σ j vs]
      have : j ∈ v :: vs ↔ j ∈ vs := by
        rw [List.mem_cons]
        exact ⟨fun z => z.elim (fun e => absurd e.symm hv) id, .inr⟩
      by_cases hm : j ∈ vs
      · rw [if_pos hm, if_pos (this.mpr hm)]
      · rw [if_neg hm, if_neg (fun z => hm (this.mp z))]
theorem wipeE_length (δ : Env) : ∀ vs : List Nat, (wipeE δ vs).length = δ.length
  | [] => rfl
  | v :: vs => by unfold wipeE; rw [List.length_set, wipeE_length δ vs]
theorem wipeE_some {δ : Env} {i : Nat} {x : D} : ∀ {vs : List Nat}, (wipeE δ vs)[i]? = some (some x) → δ[i]? = some (some x) ∧ i ∉ vs
  | [], h => ⟨h, by simp⟩
  | v :: vs, h => by
    unfold wipeE at h
    by_cases hi : v = i
    · subst hi
      by_cases hv : v < (wipeE δ vs).length
      · rw [List.getElem?_set_self hv] at h; cases h
      · rw [List.getElem?_eq_none (by simpa using hv)] at h; cases h
    · rw [List.getElem?_set_ne hi] at h
      obtain ⟨h1, h2⟩ := wipeE_some h
      exact ⟨h1, by simp only [List.mem_cons, not_or]; exact ⟨fun e => hi e.symm, h2⟩⟩
theorem EnvR.wipe {W : Wd} {w : Vw} {δ : Env} {σ : L2.St} (h : EnvR W w δ σ) (vs : List Nat) : EnvR W w (wipeE δ vs) (L2.wipe σ vs) := by
  refine ⟨by rw [wipeE_length, wipe_length, h.1], fun i d e => ?_⟩
  obtain ⟨e1, hn⟩ := wipeE_some e
  obtain ⟨v, ev, r⟩ := h.2 i d e1
  exact ⟨v, by rw [wipe_get, if_neg hn]; exact ev, r⟩
theorem wipe_back {σ σ2 : L2.St} {vs : List Nat} (hl : σ2.length = (wipe σ vs).length) (h : ∀ j, j ∉ vs → σ2[j]? = (wipe σ vs)[j]?) : wipe σ2 vs = wipe σ vs := by
  apply List.ext_getElem?
  intro j
  rw [wipe_get, wipe_get]
  rw [wipe_length] at hl
  by_cases hj : j ∈ vs
  · rw [if_pos hj, if_pos hj, hl]
  · rw [if_neg hj, if_neg hj, h j hj, wipe_get, if_neg hj]

abbrev W0 : WX := fun _ _ _ _ => False
section
variable {X : Cx} {T : List Addr} {cls : Nat → Addr} {Wx : WX}
variable {elt tg iter : Expr} {ifs : List Expr} {scope : Scope} {own : List (Str × Nat)} {pos : Pos} {cg ci ct ce : IR}
/-- the reading of a comprehension -/
theorem lc_read {σ : L2.St} {H : Hp} {Q : VK} (hsl : ∀ j ∈ slotsG cg, j ∈ own.map (·.2)) (h : DE (wd X T cls) Wx (.cpr own cg ci ct ce) σ H Q) :
    tLc (DI (wd X T cls) Wx ci) (DG (wd X T cls) cg) (DT (wd X T cls) W0 ct) (DE (wd X T cls) W0 ce) (own.map (·.2)) σ H Q := by
  obtain ⟨S, δ, QM, QX, rfl, R, hE, hw, hq, hx⟩ := h
  simp only [wpE] at hw
  refine ⟨S, δ, _, QX, rfl, R, hE, hw, fun S1 J ds gd l1 R1 hJ w1 => ?_, hx⟩
  intro D hD
  have pvD : S1.pv D = none := by
    cases e : S1.pv D with
    | none => rfl
    | some o =>
      have := (R1.prv D o e).1
      rw [hD] at this
      cases this
  obtain ⟨lk, Rk⟩ := R1.keep (o := .lst []) hD
  refine ⟨fun i m H' => ∃ S2 acc vs, S2.H = H' ∧ S1.vw.le S2.vw ∧ S2.pv = upd S1.pv D (.lst vs) ∧ Rl (wd X T cls) S2 ∧ Reps X.K S2.vw acc vs ∧ i ≤ ds.length ∧ m = ds.length - i ∧
      loopC (fun x μ N => wpG cg x (wipeE δ (own.map (·.2))) μ fun δ2 μ2 => wpT ct δ2 μ2 (fun b μ3 => if b = true then wpE ce δ2 μ3 (fun y μ4 => N (some y) μ4) (fun _ _ => False) else N none μ3) (fun _ _ => False)) gd (fun ys μ2 => QM (.lst ys) μ2) (ds.drop i) acc S2.μ,
    ⟨ds.length, _, [], [], rfl, lk, rfl, Rk, rfl, Nat.zero_le _, rfl, w1⟩, ?_⟩
  rintro i m H' ⟨S2, acc, vs, rfl, l2, hpv, R2, ra, hi, rfl, w2⟩
  by_cases hlt : i < ds.length
  · have ed : ds.drop i = ds[i] :: ds.drop (i + 1) := List.drop_eq_getElem_cons hlt
    rw [ed] at w2
    obtain ⟨g2, w2⟩ := w2
    obtain ⟨_, hgo⟩ := hJ S2 l2 R2 g2
    obtain ⟨go, hy⟩ := hgo i hlt
    refine .inr ⟨go, _, fun H3 h => h, fun x H3 y => ?_⟩
    obtain ⟨S3, d, l3, R3, rfl, em, e3, r3⟩ := hy x H3 y
    rw [List.getElem?_eq_getElem hlt] at e3
    cases e3
    rw [← em] at w2
    have fin : ∀ {S' : Ss} {acc' vs'}, S3.vw.le S'.vw → S'.pv = upd S1.pv D (.lst vs') → Rl (wd X T cls) S' → Reps X.K S'.vw acc' vs' → loopC (fun x μ N => wpG cg x (wipeE δ (own.map (·.2))) μ fun δ2 μ2 => wpT ct δ2 μ2 (fun b μ3 => if b = true then wpE ce δ2 μ3 (fun y μ4 => N (some y) μ4) (fun _ _ => False) else N none μ3) (fun _ _ => False)) gd (fun ys μ2 => QM (.lst ys) μ2) (ds.drop (i + 1)) acc' S'.μ →
        ∃ m', m' < ds.length - i ∧ ∃ S2 acc vs, S2.H = S'.H ∧ S1.vw.le S2.vw ∧ S2.pv = upd S1.pv D (.lst vs) ∧ Rl (wd X T cls) S2 ∧ Reps X.K S2.vw acc vs ∧ i + 1 ≤ ds.length ∧ m' = ds.length - (i + 1) ∧
          loopC (fun x μ N => wpG cg x (wipeE δ (own.map (·.2))) μ fun δ2 μ2 => wpT ct δ2 μ2 (fun b μ3 => if b = true then wpE ce δ2 μ3 (fun y μ4 => N (some y) μ4) (fun _ _ => False) else N none μ3) (fun _ _ => False)) gd (fun ys μ2 => QM (.lst ys) μ2) (ds.drop (i + 1)) acc S2.μ :=
      fun {S' acc' vs'} l hp R' r' w' => ⟨ds.length - (i + 1), by omega, S', acc', vs', rfl, (l2.trans l3.1).trans l, hp, R', r', hlt, rfl, w'⟩
    refine ⟨S3, wipeE δ (own.map (·.2)), ds[i], _, rfl, R3, (hE.mono (l1.1.trans (l2.trans l3.1))).wipe _, r3, w2, fun S4 δ4 σ4 l4 R4 E4 a4 w4 => ⟨wipe_back a4.1 fun j hj => a4.2 j fun z => hj (hsl j z), S4, δ4, _, _, rfl, R4, E4, w4, fun S5 b l5 R5 w5 => ?_, afx_no⟩⟩
    cases b with
    | true =>
      rw [if_pos rfl] at w5 ⊢
      refine ⟨S5, δ4, _, _, rfl, R5, E4.mono l5.1, w5, fun S6 yd yv l6 R6 r6 w6 => ?_, afx_no⟩
      have pv6 : S6.pv = upd S1.pv D (.lst vs) := by rw [l6.2, l5.2, l4.2, l3.2, hpv]
      have at6 : S6.pv D = some (.lst vs) := by rw [pv6]; exact upd_same
      have l26 : S2.vw.le S6.vw := ((l3.1.trans l4.1).trans l5.1).trans l6.1
      obtain ⟨hz, w6⟩ := w6
      refine ⟨vs, (R6.prv D _ at6).1, by rw [ra.length]; exact hz, ?_⟩
      obtain ⟨l7, R7⟩ := R6.rekeep (o := .lst (vs ++ [yv])) at6
      refine fin (S' := { S6 with H := upd S6.H D (.lst (vs ++ [yv])), pv := upd S6.pv D (.lst (vs ++ [yv])) }) (vs' := vs ++ [yv]) ((l4.1.trans (l5.1.trans l6.1)).trans l7) ?_ R7 (((ra.mono l26).append (Reps.one r6)).mono l7) w6
      show upd S6.pv D _ = _
      rw [pv6, upd_upd]
    | false =>
      rw [if_neg Bool.false_ne_true] at w5 ⊢
      exact fin (l4.1.trans l5.1) (by rw [l5.2, l4.2, l3.2, hpv]) R5 (ra.mono ((l3.1.trans l4.1).trans l5.1)) w5
  · have e : i = ds.length := by omega
    subst e
    rw [List.drop_length] at w2
    obtain ⟨g2, w2⟩ := w2
    refine .inl ⟨(hJ S2 l2 R2 g2).1, ?_⟩
    have at2 : S2.pv D = some (.lst vs) := by rw [hpv]; exact upd_same
    obtain ⟨l3, R3⟩ := R2.give (pv' := S1.pv) fun a o e => by
      rw [hpv]
      by_cases ha : a = D
      · rw [ha, pvD] at e
        cases e
      · rw [upd_ne ha]
        exact e
    refine hq { S2 with pv := S1.pv } (.lst acc) (.ref D) (l1.trans ⟨l2.trans l3, rfl⟩) R3 ⟨D, vs, rfl, hid_some.mpr ⟨(R2.prv D _ at2).1, ?_⟩, ra.mono l3⟩ w2
    rintro (⟨k, c, h1, h2⟩ | ⟨o, h1⟩)
    · exact (R2.prv D _ at2).2 k c h1 h2
    · have h1 : S1.pv D = some o := h1
      rw [pvD] at h1
      cases h1
theorem d_cpr (hc : X.calm = true) (hN : X.N.Nodup) (hi : PI X tg iter (DI (wd X T cls) Wx ci)) (ok : BlkOk X.N X.env.scope scope own) (hsl : ∀ j ∈ slotsG cg, j ∈ own.map (·.2))
    (hg : ∀ (s : Shared) (H : Hp) (C : Addr) (cl : List (Str × Addr)) (fp : List Addr), PG (X.blk s H scope (compEnvC scope cl C X.env) fp) tg (DG (wd X T cls) cg)) (ht : ∀ (s : Shared) (H : Hp) (C : Addr) (cl : List (Str × Addr)) (fp : List Addr), PTs (X.blk s H scope (compEnvC scope cl C X.env) fp) ifs (DT (wd X T cls) W0 ct))
    (he : ∀ (s : Shared) (H : Hp) (C : Addr) (cl : List (Str × Addr)) (fp : List Addr), PE (X.blk s H scope (compEnvC scope cl C X.env) fp) elt (DE (wd X T cls) W0 ce)) (hs : ∀ x, foldedSetIterable iter X.env x = pure x) :
    PE X (.ListComp elt [⟨tg, iter, ifs, 0⟩] scope pos) (DE (wd X T cls) Wx (.cpr own cg ci ct ce)) :=
  PE.weak (pe_lc hc hN hi ok hg ht he hs) fun σ H Q h => lc_read hsl h
theorem s_asc {i : Nat} {y : Str} {py spos : Pos} (hc : X.calm = true) (hN : X.N.Nodup) (hy : X.N[i]? = some y) (hyl : X.env.scope.names.lookup y = some .local)
    (hsw : swapsWith (.ListComp elt [⟨tg, iter, ifs, 0⟩] scope pos) (some (.Name y py)) spos.line X.env = pure true) (hi : PI X tg iter (DI (wd X T cls) Wx ci)) (ok : BlkOk X.N X.env.scope scope own) (hsl : ∀ j ∈ slotsG cg, j ∈ own.map (·.2))
    (hg : ∀ (s : Shared) (H : Hp) (C : Addr) (cl : List (Str × Addr)) (fp : List Addr), PG (X.blk s H scope (compEnvC scope cl C X.env) fp) tg (DG (wd X T cls) cg)) (ht : ∀ (s : Shared) (H : Hp) (C : Addr) (cl : List (Str × Addr)) (fp : List Addr), PTs (X.blk s H scope (compEnvC scope cl C X.env) fp) ifs (DT (wd X T cls) W0 ct))
    (he : ∀ (s : Shared) (H : Hp) (C : Addr) (cl : List (Str × Addr)) (fp : List Addr), PE (X.blk s H scope (compEnvC scope cl C X.env) fp) elt (DE (wd X T cls) W0 ce)) (hs : ∀ x, foldedSetIterable iter X.env x = pure x) :
    PS X (.Assign [.Name y py] (.ListComp elt [⟨tg, iter, ifs, 0⟩] scope pos) spos) (DS (wd X T cls) Wx (.asc i (.cpr own cg ci ct ce))) :=
  PS.weak (ps_setLc hc hN hy hyl hsw hi ok hg ht he hs) fun E σ H h => by
    obtain ⟨S, δ, O, rfl, R, hE, hw, C⟩ := h
    simp only [wpS] at hw
    exact lc_read hsl ⟨S, δ, _, _, rfl, R, hE, hw, fun S1 d1 v1 l1 R1 r1 w1 => C.nx S1 _ _ l1 R1 ((hE.mono l1.1).set r1) w1, C.afx hE⟩
theorem ts_nil : PTs X [] (DT (wd X T cls) Wx .nop) :=
  PTs.weak pts_nil fun σ H Q h => by
    obtain ⟨S, δ, QM, QX, rfl, R, hE, hw, hq, hx⟩ := h
    simp only [wpT] at hw
    exact hq S true (.refl _) R hw
theorem ts_one {c : Expr} (h : PT X c (DT (wd X T cls) Wx ct)) : PTs X [c] (DT (wd X T cls) Wx ct) := pts_one h

/-! ### calls -/
/-- a def's promise, by data -/
def lift (W : Wd) (sp : Spec) : Sp := fun vs H Q E => ∃ S ds QM QX, S.H = H ∧ Rl W S ∧ Reps W.K S.vw ds vs ∧ sp ds S.μ QM QX ∧ After W S QM Q ∧ AfterX W S QX E
/-- the def (or built-in) that a module's name x holds does sp -/
structure Bs where
  P : Program
  w : World
  K : PySem.W.Frag
  mg : Str → Option Value
  base : Heap
abbrev Cx.bs (X : Cx) : Bs := ⟨X.prog, X.w, X.K, X.mg, X.base⟩
/-- a def of the text that is called by its name -/
def FnC (B : Bs) (T : List Addr) (cls : Nat → Addr) (k : Nat) (x : Str) (sp : Spec) : Prop :=
  ∃ (f : Addr) (fd : FuncData) (ps : List Str) (sp' : Spec) (dd : List D) (dvs : List V) (dus : List Value), B.mg x = some (.ref f) ∧ PySem.W.keepIn B.K (.ref f) = true ∧ (x == ("__debug__" : Str)) = false ∧
    FnOk B.P B.w B.K B.mg B.base (L2.CX B.P B.w) k f fd ps (lift ⟨B.K, T, cls⟩ sp') ∧ Binds B.K fd ps dus ∧ Vals dvs dus ∧ (∀ w, Reps B.K w dd dvs) ∧ ∀ ds μ Q E, sp ds μ Q E → sp' (ds ++ dd) μ Q E
/-- a built-in by its name -/
def BiC (B : Bs) (T : List Addr) (cls : Nat → Addr) (k : Nat) (x : Str) (sp : Spec) : Prop :=
  B.mg x = none ∧ x ≠ "__name__" ∧ (x == ("__debug__" : Str)) = false ∧ ∃ u : Value, bootBuiltins x = some u ∧ ((∃ id, u = .builtin id) ∨ ∃ id, u = .type id) ∧
    ∀ X : Cx, Cx.bs X = B → X.calm = true → Room k X.A → CallR X u fun vs H Q => ∃ S ds QM, S.H = H ∧ Rl (wd X T cls) S ∧ Reps X.K S.vw ds vs ∧ sp ds S.μ QM (fun _ _ => False) ∧ After (wd X T cls) S QM Q
def CalC (B : Bs) (T : List Addr) (cls : Nat → Addr) (k : Nat) (x : Str) (sp : Spec) : Prop := FnC B T cls k x sp ∨ (BiC B T cls k x sp ∧ ∀ ds μ Q E, sp ds μ Q E → sp ds μ Q (fun _ _ => False))
variable {e : Expr} {es : List Expr} {ca : IR} {k : Nat} {x : Str} {sp : Spec} {p : Pos}
theorem d_cal (hr : Room k X.A) (hc : X.calm = true) (tk : Takes X Wx) (h : CalC (Cx.bs X) T cls k x sp) (hg : Gl X x) (ha : PA X (e :: es) (DA (wd X T cls) Wx ca))
    (he : starEach (e :: es) X.env = (false, eval e X.env) :: starEach es X.env) (hpl : (backTo pos (starEach es X.env)).any (·.1) = false) : PE X (.Call (.Name x p) (e :: es) [] pos) (DE (wd X T cls) Wx (.cal x sp ca)) := by
  rcases h with ⟨f, fd, ps, sp', dd, dvs, dus, hm, hk, hdb, F, b, hd, hrd, imp⟩ | ⟨⟨hm, hn, hdb, u, hv, hu, hcr⟩, himp⟩
  · refine PE.weak (pe_callSD F hr hg hm hk b hd (passAt tk) ha hdb he hpl) fun σ H Q h => ?_
    obtain ⟨S, δ, QM, QX, rfl, R, hE, hw, hq, hx⟩ := h
    simp only [wpE] at hw
    exact ⟨S, δ, _, QX, rfl, R, hE, hw, fun S1 ds vs l1 R1 r1 w1 => ⟨S1, ds ++ dd, QM, QX, rfl, R1, r1.append (hrd _), imp _ _ _ _ w1, hq.le l1, hx.le l1⟩, hx⟩
  · have hcr := hcr X rfl hc hr
    have red : ∀ σ H Q, DE (wd X T cls) Wx (.cal x sp ca) σ H Q → DA (wd X T cls) Wx ca σ H fun vs H1 => ∃ S ds QM, S.H = H1 ∧ Rl (wd X T cls) S ∧ Reps X.K S.vw ds vs ∧ sp ds S.μ QM (fun _ _ => False) ∧ After (wd X T cls) S QM Q := fun σ H Q h => by
      obtain ⟨S, δ, QM, QX, rfl, R, hE, hw, hq, hx⟩ := h
      simp only [wpE] at hw
      exact ⟨S, δ, _, QX, rfl, R, hE, hw, fun S1 ds vs l1 R1 r1 w1 => ⟨S1, ds, QM, rfl, R1, r1, himp _ _ _ _ w1, hq.le l1⟩, hx⟩
    rcases hu with ⟨id, rfl⟩ | ⟨id, rfl⟩
    · exact PE.weak (pe_callB hcr hg hm hv ha hn hdb he hpl) red
    · exact PE.weak (pe_callTy hcr hg hm hv ha hn hdb he hpl) red
end
end M
end

section
set_option Elab.async false
set_option linter.all false
set_option maxRecDepth 100000
set_option maxHeartbeats 4000000
/-! M: a term and a piece of syntax, held side by side. -/
namespace M
open PySem PySem.Spec PyProof.Rows L2

def isSlice : Expr → Bool
  | .Slice .. => true
  | _ => false
def isStar : Expr → Bool
  | .Starred .. => true
  | _ => false
def isComp : Expr → Bool
  | .ListComp .. | .SetComp .. | .DictComp .. => true
  | _ => false
def isCall : Expr → Bool
  | .Call .. => true
  | _ => false
def isSetE : Expr → Bool
  | .Set .. => true
  | _ => false
def isSeqE : Expr → Bool
  | .Tuple .. | .List .. => true
  | _ => false
def isBoolE : Expr → Bool
  | .BoolOp .. => true
  | _ => false
/-- a test that is its value's truth -/
def isPlainT : Expr → Bool
  | .UnaryOp .Not _ _ | .BoolOp .. | .IfExp .. | .Compare .. => false
  | _ => true
def visB (sc : Scope) (x : Str) : Bool := match sc.names.lookup x with
  | some .local | some .cell | some .free => true
  | _ => false
def glB (sc : Scope) (x : Str) : Bool := decide (sc.names.lookup x = some .globalImplicit)
def locB (sc : Scope) (top : Bool) (x : Str) : Bool := match sc.names.lookup x with
  | some .local => true
  | some .cell => top
  | _ => false
def okName (x : Str) : Bool := !(x == ("__debug__" : Str)) && !(x == ("__classdict__" : Str))
def conB : D → Const → Bool
  | .int i, .int j => decide (i = j)
  | .str s, .str t => decide (s = t)
  | .bl b, .bool c => b == c
  | .non, .none => true
  | _, _ => false
def noFree (sc : Scope) : Bool := sc.names.all fun y => match y.2 with
  | .free => false
  | .cell => false
  | _ => true

def chkOpt (c : IR) (e : Option Expr) (f : Expr → Bool) : Bool := match c, e with
  | .nop, none => true
  | .nop, some _ => false
  | _, some e => f e
  | _, none => false
def chkTs (c : IR) (es : List Expr) (f : Expr → Bool) : Bool := match c, es with
  | .nop, [] => true
  | .nop, _ :: _ => false
  | _, [e] => f e
  | _, _ => false
mutual
def chkE (N : List Str) : IR → Scope → Bool → Expr → Bool
  | .var i, sc, _, .Name x _ => decide (N[i]? = some x) && visB sc x && okName x
  | .con d, _, _, .Constant c _ _ => conB d c
  | .glb x _, sc, _, .Name y _ => decide (x = y) && glB sc y && okName y
  | .bty n, sc, _, .Name y _ => decide (Str.ofString n = y) && glB sc y && okName y
  | .bin o a b, sc, t, .BinOp l p r _ => decide (o = p) && chkE N a sc t l && chkE N b sc t r
  | .neg a, sc, t, .UnaryOp .USub x _ => chkE N a sc t x
  | .notV a, sc, t, .UnaryOp .Not x _ => chkE N a sc t x
  | .cmp o a b, sc, t, .Compare l [p] [r] _ => decide (o = p) && !behindInMarks p r && chkE N a sc t l && chkE N b sc t r
  | .chn o o' a b c, sc, t, .Compare l [p, p'] [r, r'] _ => decide (o = p) && decide (o' = p') && !lastMarks [p, p'] [r, r'] && chkE N a sc t l && chkE N b sc t r && chkE N c sc t r'
  | .one a, sc, t, .BoolOp _ [x] _ => chkE N a sc t x
  | .andV a r, sc, t, .BoolOp .And (x :: y :: es) pos => chkE N a sc t x && chkE N r sc t (.BoolOp .And (y :: es) pos)
  | .orV a r, sc, t, .BoolOp .Or (x :: y :: es) pos => chkE N a sc t x && chkE N r sc t (.BoolOp .Or (y :: es) pos)
  | .ife c a b, sc, t, .IfExp x y z _ => chkT N c sc t x && chkE N a sc t y && chkE N b sc t z
  | .ix a i, sc, t, .Subscript x y _ => !isSlice y && chkE N a sc t x && chkE N i sc t y
  | .sl a lo hi, sc, t, .Subscript x (.Slice l h none _) _ => chkE N a sc t x && chkOpt lo l (fun e => chkE N lo sc t e) && chkOpt hi h (fun e => chkE N hi sc t e)
  | .tupC as, sc, t, .Tuple es _ _ => chkA N as sc t es
  | .lstC as, sc, t, .List es _ => chkA N as sc t es
  | .lstM as, sc, t, .List es _ => chkA N as sc t es
  | .cal x _ as, sc, t, .Call (.Name y _) es [] _ => decide (x = y) && glB sc y && !es.isEmpty && chkA N as sc t es
  | .bme _ _ m _ o as, sc, t, .Call (.Attribute x a apos) es [] pos => decide (m = a) && !isCall x && !es.isEmpty && decide (es.length < 30) && (apos.endLine == pos.line) && chkE N o sc t x && chkA N as sc t es
  | .cpr own g it c e, sc, t, .ListComp elt [⟨tg, iter, ifs, as⟩] scope _ => decide (as = 0) && blkC N sc scope own && (slotsG g).all (fun j => decide (j ∈ own.map (·.2))) && !isSetE iter && chkI N it sc t iter && chkG N g (relS scope sc) false tg && chkTs c ifs (fun e => chkT N c (relS scope sc) false e) && chkE N e (relS scope sc) false elt
  | .frz a, sc, t, e => chkE N a sc t e
  | .nod f _ as, sc, t, e => match f N sc t e with
    | some es => chkA N as sc t es
    | none => false
  | _, _, _, _ => false
def chkA (N : List Str) : IR → Scope → Bool → List Expr → Bool
  | .nil, _, _, [] => true
  | .cons a r, sc, t, e :: es => !isStar e && chkE N a sc t e && chkA N r sc t es
  | _, _, _, _ => false
def chkT (N : List Str) : IR → Scope → Bool → Expr → Bool
  | .cmp o a b, sc, t, .Compare l [p] [r] _ => decide (o = p) && !behindInMarks p r && chkE N a sc t l && chkE N b sc t r
  | .chn o o' a b c, sc, t, .Compare l [p, p'] [r, r'] _ => decide (o = p) && decide (o' = p') && !lastMarks [p, p'] [r, r'] && chkE N a sc t l && chkE N b sc t r && chkE N c sc t r'
  | .tV a, sc, t, e => isPlainT e && chkE N a sc t e
  | .tnd f _ as, sc, t, e => !isBoolE e && match f N sc t e with
    | some es => chkA N as sc t es
    | none => false
  | .tNot a, sc, t, .UnaryOp .Not x _ => chkT N a sc t x
  | .tOne a, sc, t, .BoolOp _ [x] _ => chkT N a sc t x
  | .tAnd a r, sc, t, .BoolOp .And (x :: y :: es) pos => chkT N a sc t x && chkT N r sc t (.BoolOp .And (y :: es) pos)
  | .tOr a r, sc, t, .BoolOp .Or (x :: y :: es) pos => chkT N a sc t x && chkT N r sc t (.BoolOp .Or (y :: es) pos)
  | _, _, _, _ => false
def chkI (N : List Str) : IR → Scope → Bool → Expr → Bool
  | .itV a, sc, t, e => chkE N a sc t e
  | .ind f _ as, sc, t, e => match f N sc t e with
    | some es => chkA N as sc t es
    | none => false
  | .itR1 a, sc, t, .Call (.Name y _) [e] [] _ => decide (y = ("range" : Str)) && glB sc y && !isStar e && chkE N a sc t e
  | .itR2 a b, sc, t, .Call (.Name y _) [e, e'] [] _ => decide (y = ("range" : Str)) && glB sc y && !isStar e && !isStar e' && chkE N a sc t e && chkE N b sc t e'
  | _, _, _, _ => false
def chkG (N : List Str) : IR → Scope → Bool → Expr → Bool
  | .gN i, sc, t, .Name x _ => decide (N[i]? = some x) && locB sc t x
  | .gT n gs, sc, t, .Tuple es _ _ => decide (es.length = n) && chkGs N gs sc t es
  | .gSub o i, sc, t, .Subscript x y _ => !isSlice y && chkE N o sc t x && chkE N i sc t y
  | _, _, _, _ => false
def chkGs (N : List Str) : IR → Scope → Bool → List Expr → Bool
  | .nil, _, _, [] => true
  | .cons a r, sc, t, e :: es => !isStar e && chkG N a sc t e && chkGs N r sc t es
  | _, _, _, _ => false
end
mutual
def chkS (N : List Str) : IR → Scope → Stmt → Bool
  | .asg g e, sc, .Assign [t] v _ => !(isSeqE t && isSeqE v) && !isComp v && chkG N g sc true t && chkE N e sc true v
  | .asc i (.cpr own g it c e), sc, .Assign [.Name y py] (.ListComp elt [⟨tg, iter, ifs, as⟩] scope pos) _ => decide (as = 0) && decide (N[i]? = some y) && decide (sc.names.lookup y = some .local) && (py.line == pos.line) && !(scope.names.any fun (n, k) => n == y && (k == .local || k == .cell)) &&
      blkC N sc scope own && (slotsG g).all (fun j => decide (j ∈ own.map (·.2))) && !isSetE iter && chkI N it sc true iter && chkG N g (relS scope sc) false tg && chkTs c ifs (fun e => chkT N c (relS scope sc) false e) && chkE N e (relS scope sc) false elt
  | .exp e, sc, .Expr v _ => !isComp v && chkE N e sc true v
  | .ret e, sc, .Return (some v) _ => chkE N e sc true v
  | .ret0, _, .Return none _ => true
  | .ifS t a b, sc, .If c x y _ => chkT N t sc true c && chkB N a sc x && chkB N b sc y
  | .whl t b, sc, .While c x [] _ => chkT N t sc true c && chkB N b sc x
  | .fr g it b, sc, .For tg iter x [] _ => !isSetE iter && chkI N it sc true iter && chkG N g sc true tg && chkB N b sc x
  | .brk, _, .Break _ => true
  | .cnt, _, .Continue _ => true
  | .pas, _, .Pass _ => true
  | .nev, _, _ => true
  | .sno f _ as, sc, st => match f N sc st with
    | some es => chkA N as sc true es
    | none => false
  | _, _, _ => false
def chkB (N : List Str) : IR → Scope → List Stmt → Bool
  | .nil, _, [] => true
  | .seq s r, sc, st :: rest => chkS N s sc st && chkB N r sc rest
  | _, _, _ => false
end
end M
end

section
set_option Elab.async false
set_option linter.all false
set_option maxRecDepth 100000
set_option maxHeartbeats 4000000
/-! M: what the checked term asks of the module, and that it then does what it wants. -/
namespace M
open PySem PySem.Spec PyProof.Rows L2

def GlC (B : Bs) (x : Str) (d : D) : Prop := ∃ u v, B.mg x = some u ∧ RelV v u ∧ ∀ w, Rep B.K w d v
def BtC (B : Bs) (n : String) : Prop := B.mg (Str.ofString n) = none ∧ bootBuiltins (Str.ofString n) = some (.type n) ∧ Str.ofString n ≠ "__name__"
def MtC (B : Bs) (T : List Addr) (cls : Nat → Addr) (k : Nat) (Ty id : String) (m : Str) (sp : Spec) : Prop :=
  PlainAttrs Ty ∧ Slot Ty m id ∧ typeOf (.builtin id) = pure (.type "method_descriptor") ∧
    ∀ X : Cx, Cx.bs X = B → X.calm = true → Room k X.A → MtR X id fun x vs H Q => ∃ S d ds QM, S.H = H ∧ Rl (wd X T cls) S ∧ Rep X.K S.vw d x ∧ Reps X.K S.vw ds vs ∧ sp (d :: ds) S.μ QM (fun _ _ => False) ∧ After (wd X T cls) S QM Q
/-- the running def's code object, with its table -/
def CodeOk (X : Cx) (T : List Addr) : Prop := ∃ c P, X.env.code = .ref c ∧ GxR.TabB X.base X.mg c P ∧ P ∈ T

/-- the context of a def's body, or of a block in it -/
structure Gd (X : Cx) (top : Bool) (k : Nat) : Prop where
  calm : X.calm = true
  nd : X.N.Nodup
  room : Room k X.A
  fn : top = true → ∀ x, X.fn x = true
/-- what goes down unchanged -/
structure Sd (B : Bs) (T : List Addr) (k : Nat) (X : Cx) (top : Bool) (cd : Prop) (Wx : WX) : Prop where
  bs : Cx.bs X = B
  g : Gd X top k
  co : cd → CodeOk X T
  tk : Takes X Wx
  ct : top = false → cd → False
  kind : top = true → X.env.scope.kind = .function
/-- the parts, each by itself -/
def PEs (X : Cx) (W : Wd) (Wx : WX) : IR → List Expr → Prop
  | .nil, es => es = []
  | .cons a r, es => match es with
    | e :: es => isStar e = false ∧ PE X e (DE W Wx a) ∧ PEs X W Wx r es
    | [] => False
  | _, _ => False
def NodOk (B : Bs) (T : List Addr) (cls : Nat → Addr) (k : Nat) (cd : Prop) (f : XF) (ev : EvE) : Prop :=
  ∀ (X : Cx) (top : Bool) (Wx : WX) (e : Expr) (es : List Expr) (as : IR), Sd B T k X top cd Wx → f X.N X.env.scope top e = some es → PEs X (wd X T cls) Wx as es → PE X e (DE (wd X T cls) Wx (.nod f ev as))
def TndOk (B : Bs) (T : List Addr) (cls : Nat → Addr) (k : Nat) (cd : Prop) (f : XF) (ev : EvT) : Prop :=
  ∀ (X : Cx) (top : Bool) (Wx : WX) (e : Expr) (es : List Expr) (as : IR), Sd B T k X top cd Wx → f X.N X.env.scope top e = some es → PEs X (wd X T cls) Wx as es → PT X e (DT (wd X T cls) Wx (.tnd f ev as))
def IndOk (B : Bs) (T : List Addr) (cls : Nat → Addr) (k : Nat) (cd : Prop) (f : XF) (ev : EvI) : Prop :=
  ∀ (X : Cx) (top : Bool) (Wx : WX) (tg e : Expr) (es : List Expr) (as : IR), Sd B T k X top cd Wx → f X.N X.env.scope top e = some es → PEs X (wd X T cls) Wx as es → PI X tg e (DI (wd X T cls) Wx (.ind f ev as))
def SnoOk (B : Bs) (T : List Addr) (cls : Nat → Addr) (k : Nat) (cd : Prop) (f : SF) (ev : EvS) : Prop :=
  ∀ (X : Cx) (Wx : WX) (st : Stmt) (es : List Expr) (as : IR), Sd B T k X true cd Wx → f X.N X.env.scope st = some es → PEs X (wd X T cls) Wx as es → PS X st (DS (wd X T cls) Wx (.sno f ev as))

/-- what a term asks of the module -/
def okE (B : Bs) (T : List Addr) (cls : Nat → Addr) (k : Nat) : Prop → IR → Prop
  | _, .glb x d => GlC B x d
  | _, .bty n => BtC B n
  | cd, .cal x sp as => CalC B T cls k x sp ∧ okE B T cls k cd as
  | cd, .bme Ty id m sp o as => MtC B T cls k Ty id m sp ∧ okE B T cls k cd o ∧ okE B T cls k cd as
  | cd, .nod f ev as => NodOk B T cls k cd f ev ∧ okE B T cls k cd as
  | cd, .tnd f ev as => TndOk B T cls k cd f ev ∧ okE B T cls k cd as
  | cd, .ind f ev as => IndOk B T cls k cd f ev ∧ okE B T cls k cd as
  | cd, .sno f ev as => SnoOk B T cls k cd f ev ∧ okE B T cls k cd as
  | cd, .itR1 a => B.mg "range" = none ∧ okE B T cls k cd a
  | cd, .itR2 a b => B.mg "range" = none ∧ okE B T cls k cd a ∧ okE B T cls k cd b
  | cd, .cpr _ g it t e => okE B T cls k cd it ∧ okE B T cls k False g ∧ okE B T cls k False t ∧ okE B T cls k False e
  | cd, .bin _ a b => okE B T cls k cd a ∧ okE B T cls k cd b
  | cd, .neg a => okE B T cls k cd a
  | cd, .cmp _ a b => okE B T cls k cd a ∧ okE B T cls k cd b
  | cd, .chn _ _ a b c => okE B T cls k cd a ∧ okE B T cls k cd b ∧ okE B T cls k cd c
  | cd, .one a => okE B T cls k cd a
  | cd, .andV a b => okE B T cls k cd a ∧ okE B T cls k cd b
  | cd, .orV a b => okE B T cls k cd a ∧ okE B T cls k cd b
  | cd, .notV a => okE B T cls k cd a
  | cd, .ife a b c => okE B T cls k cd a ∧ okE B T cls k cd b ∧ okE B T cls k cd c
  | cd, .ix a b => okE B T cls k cd a ∧ okE B T cls k cd b
  | cd, .sl a b c => okE B T cls k cd a ∧ okE B T cls k cd b ∧ okE B T cls k cd c
  | cd, .tupC a => okE B T cls k cd a
  | cd, .lstC a => okE B T cls k cd a
  | cd, .lstM a => okE B T cls k cd a
  | cd, .cons a b => okE B T cls k cd a ∧ okE B T cls k cd b
  | cd, .frz a => okE B T cls k cd a
  | cd, .tV a => okE B T cls k cd a
  | cd, .tNot a => okE B T cls k cd a
  | cd, .tOne a => okE B T cls k cd a
  | cd, .tAnd a b => okE B T cls k cd a ∧ okE B T cls k cd b
  | cd, .tOr a b => okE B T cls k cd a ∧ okE B T cls k cd b
  | cd, .itV a => okE B T cls k cd a
  | cd, .gT _ a => okE B T cls k cd a
  | cd, .gSub a b => okE B T cls k cd a ∧ okE B T cls k cd b
  | cd, .asg a b => okE B T cls k cd a ∧ okE B T cls k cd b
  | cd, .asc _ b => okE B T cls k cd b
  | cd, .exp a => okE B T cls k cd a
  | cd, .ret a => okE B T cls k cd a
  | cd, .ifS a b c => okE B T cls k cd a ∧ okE B T cls k cd b ∧ okE B T cls k cd c
  | cd, .whl a b => okE B T cls k cd a ∧ okE B T cls k cd b
  | cd, .fr a b c => okE B T cls k cd a ∧ okE B T cls k cd b ∧ okE B T cls k cd c
  | cd, .seq a b => okE B T cls k cd a ∧ okE B T cls k cd b
  | _, _ => True

/-! ### side conditions -/
section
variable {X : Cx} {T : List Addr} {cls : Nat → Addr} {Wx : WX}
theorem gl_of {x : Str} (h : glB X.env.scope x = true) : Gl X x := of_decide_eq_true (p := X.env.scope.names.lookup x = some .globalImplicit) h
theorem vis_of {sc : Scope} {x : Str} (h : visB sc x = true) : Vis sc x := by
  unfold visB at h
  split at h <;> first | (rename_i e; first | exact .inl e | exact .inr (.inl e) | exact .inr (.inr e)) | cases h
theorem okN {x : Str} (h : okName x = true) : (x == ("__debug__" : Str)) = false ∧ (x == ("__classdict__" : Str)) = false := by
  unfold okName at h
  rw [Bool.and_eq_true, Bool.not_eq_true', Bool.not_eq_true'] at h
  exact h
theorem star_of {e : Expr} {es : List Expr} {env : PySem.Env} (h : isStar e = false) : starEach (e :: es) env = (false, eval e env) :: starEach es env := by
  cases e <;> first | rfl | cases (show true = false from h)
theorem back_of {pos : Pos} {env : PySem.Env} : ∀ {es : List Expr}, (es.all fun e => !isStar e) = true → (backTo pos (starEach es env)).any (·.1) = false
  | [], _ => rfl
  | e :: es, h => by
    rw [List.all_cons, Bool.and_eq_true, Bool.not_eq_true'] at h
    rw [star_of h.1]
    show (false || (backTo pos (starEach es env)).any (·.1)) = false
    rw [back_of h.2]
    rfl
theorem backAll_of {pos : Pos} {env : PySem.Env} : ∀ {es : List Expr}, (es.all fun e => !isStar e) = true → (backTo pos (starEach es env)).all (fun x => !x.1) = true
  | [], _ => rfl
  | e :: es, h => by
    rw [List.all_cons, Bool.and_eq_true, Bool.not_eq_true'] at h
    rw [star_of h.1]
    show (true && (backTo pos (starEach es env)).all (fun x => !x.1)) = true
    rw [backAll_of h.2]
    rfl
theorem plainIx_of {e : Expr} (h : isSlice e = false) : PlainIx e := by
  intro o i
  cases e <;> first | rfl | cases (show true = false from h)
theorem set_of {e : Expr} {env : PySem.Env} (h : isSetE e = false) : ∀ x, foldedSetIterable e env x = pure x := by
  intro x
  cases e <;> first | rfl | cases (show true = false from h)
theorem plainT_of {e : Expr} {env : PySem.Env} (h : isPlainT e = true) : ∀ whole, isTrue e env whole = (do let v ← whole; standAt e.pos; holding [v] (truthy v)) := by
  intro w
  cases e <;> first | rfl | (cases (show false = true from h)) | skip
  rename_i op x pos
  cases op <;> first | rfl | cases (show false = true from h)
theorem swap_of {e : Expr} {t : Option Expr} {n : Nat} {env : PySem.Env} (h : isComp e = false) : swapsWith e t n env = pure false := by
  cases e <;> first | rfl | cases (show true = false from h)
theorem stores_of {t e : Expr} {env : PySem.Env} (h : (isSeqE t && isSeqE e) = false) : swappedStores [t] e env = pure none := by
  cases t <;> first | rfl | (cases e <;> first | rfl | cases (show true = false from h))
theorem assignEach_of {e : Expr} {es : List Expr} {env : PySem.Env} (h : isStar e = false) : assignEach (e :: es) env = (false, assign e env) :: assignEach es env := by
  cases e <;> first | rfl | cases (show true = false from h)
theorem assignSub {a b : Expr} {pos : Pos} {env : PySem.Env} (h : isSlice b = false) : ∀ v, assign (.Subscript a b pos) env v = (do
      let ov ← holding [v] (eval a env)
      let iv ← holding [v, ov] (eval b env)
      standAt pos
      holding [v, ov, iv] (setItem ov iv v)
      release [v, ov, iv] []) := by
  intro v
  cases b <;> first | rfl | cases (show true = false from h)
theorem base_of {o : Expr} {m : Str} {env : PySem.Env} (h : isCall o = false) : attributeBase o m env (eval o env) = eval o env := by
  cases o <;> first | rfl | cases (show true = false from h)

/-! ### a built-in's method -/
theorem tyD_rep {W : Wd} {S : Ss} {d : D} {v : V} {Ty : String} (R : Rl W S) (r : Rep W.K S.vw d v) (h : tyD Ty d S.μ = true) : tyV W.K Ty v S.H := by
  unfold tyD at h
  split at h
  · have e : v = _ := r
    subst e
    exact (show Ty = "str" from beq_iff_eq.mp h)
  · obtain ⟨a, xs, e, g, _⟩ := r
    subst e
    exact .inl ⟨beq_iff_eq.mp h, xs, SqL.of (hid_ex g)⟩
  · obtain ⟨a, xs, e, g, _⟩ := r
    subst e
    exact .inl ⟨beq_iff_eq.mp h, xs, hid_ext.sql g⟩
  · obtain ⟨_, e⟩ := r
    subst e
    split at h
    · rename_i c hc
      obtain ⟨xs, e1, _⟩ := R.ok _ _ hc
      exact .inl ⟨beq_iff_eq.mp h, xs, SqL.of e1⟩
    · rename_i c hc
      obtain ⟨xs, e1, _⟩ := R.ok _ _ hc
      exact .inr (.inr (.inl ⟨beq_iff_eq.mp h, .inl ⟨xs, e1⟩⟩))
    · cases h
  · cases h
theorem d_bme {o e : Expr} {es : List Expr} {co ca : IR} {k : Nat} {Ty id : String} {m : Str} {sp : Spec} {apos pos : Pos} (hr : Room k X.A) (hc : X.calm = true) (h : MtC (Cx.bs X) T cls k Ty id m sp) (ho : PE X o (DE (wd X T cls) Wx co)) (ha : PA X (e :: es) (DA (wd X T cls) Wx ca))
    (hno : isCall o = false) (hst : ((e :: es).all fun e => !isStar e) = true) (hlen : (e :: es).length < 30) (hline : (apos.endLine == pos.line) = true) : PE X (.Call (.Attribute o m apos) (e :: es) [] pos) (DE (wd X T cls) Wx (.bme Ty id m sp co ca)) := by
  obtain ⟨pa, sl, hty, hm⟩ := h
  have hst' := hst
  rw [List.all_cons, Bool.and_eq_true, Bool.not_eq_true'] at hst'
  refine PE.weak (pe_bm pa sl hty (hm X rfl hc hr) ho ha (base_of hno) ?_ hline (star_of hst'.1) (back_of hst'.2)) fun σ H Q h => ?_
  · rw [backAll_of hst, Bool.true_and]
    show (true && decide ((e :: es).length + 0 + 0 < 30)) = true
    rw [Bool.true_and]
    exact decide_eq_true hlen
  · obtain ⟨S, δ, QM, QX, rfl, R, hE, hw, hq, hx⟩ := h
    simp only [wpE] at hw
    refine ⟨S, δ, _, QX, rfl, R, hE, hw, fun S1 d1 v1 l1 R1 r1 w1 => ⟨tyD_rep R1 r1 w1.1, ?_⟩, hx⟩
    exact ⟨S1, δ, _, QX, rfl, R1, hE.mono l1.1, w1.2, fun S2 ds vs l2 R2 r2 w2 => ⟨S2, d1, ds, QM, rfl, R2, r1.mono l2.1, r2, w2, hq.le (l1.trans l2)⟩, hx.le l1⟩
theorem Gd.blk {k : Nat} {top : Bool} (G : Gd X top k) (s : Shared) (H : Hp) (scope : Scope) (ce : PySem.Env) (fp : List Addr) : Gd (X.blk s H scope ce fp) false k := ⟨G.calm, G.nd, G.room, fun h => by cases h⟩
theorem takesF {X : Cx} : Takes X W0 := takes0
end
end M
end

section
set_option Elab.async false
set_option linter.all false
set_option maxRecDepth 100000
set_option maxHeartbeats 4000000
set_option autoImplicit false
/-! M: all(test for x in what is walked), the test may read the module's names and captured ones. -/
namespace M
open PySem PySem.Spec PyProof.Rows L2
/-- the element is a test, known by the turn; Gk: what is known of the heap -/
def EltQ (X : Cx) (scope : Scope) (cl : List (Str × Addr)) (x : Str) (elt : Expr) (Pi : Nat → Value → Prop) (pb : Nat → Bool) (Gk : Heap → Prop) : Prop :=
  ∀ (ce : PySem.Env) (A1 : Around) (E1 : Value → Shared → Prop) (i : Nat) (v : Value) (s2 : Shared) (m2 : Str → Option Value), A1.handled = none → ce.scope = scope → ce.globals = mainGlobals → ce.cells = cl → Pi i v → s2.heap.Ns ce.locals m2 → m2 x = some v → Gk s2.heap →
    wpAny (model X.prog X.w) A1 (eval elt ce) (fun y s3 => y = .bool (pb i) ∧ Keeps s2 s3) E1 s2
/-- a walk has just begun at s1, its iterator the object o that was laid last -/
structure Begun (X : Cx) (pins : List (Addr × Obj)) (σ : L2.St) (P : Addr) (scope : Scope) (x : Str) (elt : Expr) (s1 : Shared) (o : Obj) (H1 : Hp) (n : Nat) (pb : Nat → Bool) : Prop where
  inv : L2.Inv X pins σ H1 s1
  tab : GxR.TabG H1 P
  wk : ∃ (Pi : Nat → Value → Prop) (St : Nat → Heap → Prop) (Gk : Heap → Prop), (∀ A1 : Around, A1.handled = none → Walks X.prog X.w A1 s1.heap.objs.size [s1.heap.objs.size] [s1.heap.objs.size] n Pi St) ∧ St 0 (s1.heap.push o) ∧
    EltQ X scope (cloFrom X.env.cells scope.names []) x elt Pi pb Gk ∧ ∀ h', (∀ b u, b ≠ P → s1.heap.get? b = some u → h'.get? b = some u) → Gk h'
section
variable {X : Cx} {pins : List (Addr × Obj)} {σ : L2.St} {s : Shared} {c P : Addr} {elt iter : Expr} {x : Str} {px p pos gpos : Pos} {scope : Scope} {k : Nat}
theorem all_gen {Q : VK} {H : Hp} (I0 : L2.Inv X pins σ H s) (hr : Room k X.A) (hg : Gl X "all") (hm : X.mg "all" = none) (TB : GxR.TabB X.base X.mg c P) (hcode : X.env.code = .ref c) (S : GxR.GenS X.env scope x) (hs : ∀ v, genFold iter X.env v = pure v)
    (h : ∀ Q0 : Value → Shared → Prop, (∀ s1 o H1 n pb, Begun X pins σ P scope x elt s1 o H1 n pb → (∀ H2, GxR.Tabbed P H1 H2 → Q (.bl ((List.range n).all pb)) H2) → Q0 (.ref s1.heap.objs.size) { s1 with heap := s1.heap.push o }) →
      wpAny (model X.prog X.w) X.A (eval iter X.env) (fun v s2 => wpAny (model X.prog X.w) X.A (pyIter v) Q0 X.xe s2) X.xe s) :
    wpAny (model X.prog X.w) X.A (eval (.Call (.Name "all" p) [.GeneratorExp elt [⟨.Name x px, iter, [], 0⟩] scope gpos] [] pos) X.env) (EP X pins σ Q) X.xe s := by
  have e0 : starEach [.GeneratorExp elt [⟨.Name x px, iter, [], 0⟩] scope gpos] X.env = (false, eval (.GeneratorExp elt [⟨.Name x px, iter, [], 0⟩] scope gpos) X.env) :: starEach [] X.env := rfl
  refine wpAny_Call_Name_kw (ld_blt I0 hg hm (show bootBuiltins "all" = some (.builtin "all") by decide +kernel) (PyProof.Rows.callWith_builtin1 ?_ e0 rfl))
  rw [e0]
  show wpAny _ _ (spliced ((false, eval (.GeneratorExp elt [⟨.Name x px, iter, [], 0⟩] scope gpos) X.env) :: backTo pos (starEach [] X.env))) _ _ s
  refine Calls.spliced_cons ?_
  refine wpAny_GeneratorExp_walksQ hr.hd S.co (closure_ok S.free) S.cell S.dot S.loc S.kind (by have := hr.dp; omega) ?_ hs
  refine thn (h _ (fun s1 o H1 n pb B hQ => ?_)) fun _ _ z => z
  obtain ⟨I1, ⟨ps, hP, ht⟩, Pi, St, Gk, W, hst, hel, hG⟩ := B
  have tabAt : s1.heap.get? P = some { cls := .none, data := .fields ps } := I1.hok P _ hP
  have ltP : P < s1.heap.objs.size := Heap.lt_size tabAt
  have tabAt2 : (s1.heap.push o).get? P = some { cls := .none, data := .fields ps } := Heap.get?_push_of_some _ tabAt
  have cd : PySem.W.CodeHd (s1.heap.push o) c P := TB.code.keeps fun b u e => Heap.get?_push_of_some _ (I1.bk b u e)
  have lim : (s1.heap.push o).NoLimit := I1.nolimit.push o
  have szO : (s1.heap.push o).objs.size = s1.heap.objs.size + 1 := Heap.size_push ..
  refine ⟨lim, ?_⟩
  -- whatever code object the expression gets: the table may have grown
  have go : ∀ (code : Value) (h3 : Heap) (tk : Nat) (ps3 : Array Value), Heap.ExtBut P (s1.heap.push o) h3 → (s1.heap.push o).objs.size ≤ h3.objs.size → h3.get? P = some { cls := .none, data := .fields ps3 } → (∃ more, ps3 = ps ++ more) → TriplesOk ps3.toList →
      wpAny (model X.prog X.w) X.A (builtinsFor X.env.globals X.env.builtins) (fun bi s4 =>
        ∃ (Ia : Addr) (fp wr : List Addr) (n0 : Nat) (Pf : Nat → Value → Prop) (St0 : Nat → Heap → Prop) (pz : Nat → Bool) (F : Nat → Value → Prop), Value.ref s1.heap.objs.size = .ref Ia ∧ (∀ A1 : Around, A1.handled = none → Walks X.prog X.w A1 Ia fp wr n0 Pf St0) ∧ St0 0 s4.heap ∧ (∀ b ∈ fp, b < s4.heap.objs.size) ∧ s4.heap.NoLimit ∧ cStatics ∉ wr ∧
          (∀ href : Heap, (∀ b u, s4.heap.get? b = some u → href.get? b = some u) →
            QuietGen X.prog X.w (genEnv scope (cloFrom X.env.cells scope.names []) s4.heap.objs.size code bi X.env) x [] elt (List.range s4.heap.objs.size) wr Pf pz F href) ∧
          (∀ a h5 tk gs, gs.bare = true → s4.heap.objs.size < a → h5.objs.size = a + 1 → (∀ b u, s4.heap.get? b = some u → h5.get? b = some u) →
            WalksS X.prog X.w X.A.in4 a (a :: s4.heap.objs.size :: List.range s4.heap.objs.size) (s4.heap.objs.size :: wr) (GenOnlyQ s4.gens.size) (passing pz n0 0).length
              (fun j y => ∃ i, (passing pz n0 0)[j]? = some i ∧ F i y) (GenAt X.prog X.w X.A.in4 a s4.gens.size s4.heap.objs.size (List.range s4.heap.objs.size) wr pz n0 F) →
            GenAt X.prog X.w X.A.in4 a s4.gens.size s4.heap.objs.size (List.range s4.heap.objs.size) wr pz n0 F 0 { s4 with gens := s4.gens.push gs, toks := tk, heap := h5 } →
            wpAny (model X.prog X.w) X.A (spliced (backTo pos (starEach [] X.env))) (fun vs s2 => wpAny (model X.prog X.w) X.A (call (Value.builtin "all") (Value.ref a :: vs)) (EP X pins σ Q) X.xe s2) X.xe { s4 with gens := s4.gens.push gs, toks := tk, heap := h5 })) X.xe { s1 with heap := h3, toks := tk } := by
    intro code h3 tk ps3 hx hsz hP3 hmore ht3
    obtain ⟨bm, ob, e1, e2, e3, e4, e5, e6, e7, e8⟩ := TB.bm
    have stP : cStatics ≠ P := fun e => by
      obtain ⟨_, hns, _⟩ := I1.nolimit
      obtain ⟨o', es, ep, ho, hd, _⟩ := hns
      rw [e, tabAt] at ho
      cases ho
      cases hd
    have stl : cStatics < s1.heap.objs.size := let ⟨_, hns, _⟩ := I1.nolimit; hns.lt
    have keep3 : ∀ b u, b ≠ P → s1.heap.get? b = some u → h3.get? b = some u := fun b u hb e => hx b u hb (Heap.get?_push_of_some _ e)
    have hle : s1.heap.objs.size ≤ h3.objs.size := by
      rw [szO] at hsz
      exact Nat.le_of_succ_le hsz
    have neO : s1.heap.objs.size ≠ P := fun z => Nat.ne_of_lt ltP z.symm
    refine wpAny_builtinsFor (m := X.mg) (by rw [I1.ok.glob]; exact ((I1.mod.glob.keeps I1.bk).push o).extBut hx TB.gP) e1 e2 (keep3 _ _ e4 (I1.bk _ _ e5)) e6 e7 e8 ?_
    refine ⟨s1.heap.objs.size, [s1.heap.objs.size], [s1.heap.objs.size], n, Pi, St, (fun _ => true), (fun i y => y = .bool (pb i)), rfl, W, ?_, ?_, lim.extBut hx stP, ?_, ?_, ?_⟩
    · refine (W X.A hr.hd).frame _ _ _ hst fun b hb u e => hx b u (fun z => ?_) e
      rw [List.mem_singleton] at hb
      exact neO (hb.symm.trans z)
    · intro b hb
      rw [List.mem_singleton] at hb
      rw [hb]
      show s1.heap.objs.size < h3.objs.size
      omega
    · intro z
      rw [List.mem_singleton] at z
      exact Nat.ne_of_lt stl z
    · intro href hk
      refine ⟨fun A1 E1 i v s2 m2 hA hPv hn hm hkk => ?_, fun A1 E1 i v s2 m2 hA hPv hp hn hm hkk => ?_⟩
      · simp only [List.forIn_nil]
        exact wpAny_pure ⟨rfl, GxR.keeps_refl _⟩
      · have kept : ∀ b u, b ≠ P → s1.heap.get? b = some u → s2.heap.get? b = some u := fun b u hb e => by
          have hl := Heap.lt_size e
          refine hkk b (List.mem_range.mpr ?_) (fun z => ?_) u (hk b u (keep3 b u hb e))
          · exact Nat.lt_of_lt_of_le hl hle
          · rw [List.mem_singleton] at z
            exact Nat.ne_of_lt hl z
        exact hel _ A1 E1 i v s2 m2 hA rfl I1.ok.glob rfl hPv hn hm (hG _ kept)
    · intro g h5 tk5 gs hgb hag hsz5 hk5 W5 hat
      simp only [GxR.passing_true, List.length_range] at W5
      refine Calls.spliced_nil (call_all_walkS ?_)
      have W6 := W5.in4_1
      refine W6.self 0 _ _ _ hat ⟨g, _, _, _, _, _, _, pb, rfl, W6, hat, ?_, fun s' hm => ?_⟩
      · intro j y sj Qj Ej hy hQj
        obtain ⟨i, hij, rfl⟩ := hy
        obtain ⟨hj, ej⟩ := List.getElem?_eq_some_iff.mp hij
        rw [List.getElem_range] at ej
        subst ej
        exact wpAny_truthy_bool hQj
      · obtain ⟨more, em⟩ := hmore
        have nwr : ∀ b u, s1.heap.get? b = some u → b ∉ h3.objs.size :: [s1.heap.objs.size] := fun b u e hb => by
          have hl := Heap.lt_size e
          rcases List.mem_cons.mp hb with z | z
          · have z : b = h3.objs.size := z
            rw [z] at hl
            exact absurd (Nat.lt_of_lt_of_le hl hle) (Nat.lt_irrefl _)
          · rw [List.mem_singleton] at z
            exact Nat.ne_of_lt hl z
        have J := GxR.inv_tab (more := more) (h' := s'.heap) (g' := s'.gens) (d' := s'.drawn) (t' := s'.toks) I1 hP (fun b u hb e => hm.heap b u (nwr b u e) (hk5 b u (keep3 b u hb e)))
          (by rw [← em]; exact hm.heap P _ (nwr P _ tabAt) (hk5 P _ hP3)) (AllBare.movedS (I1.bare.push hgb) hm)
        rw [GxR.sh_eta s1 s' hm.os] at J
        exact ⟨.bl _, _, J, rfl, hQ _ ⟨⟨ps ++ more, upd_same, by rw [← em]; exact ht3⟩, fun b hb => upd_ne hb⟩⟩
  cases hf : codeAmong gpos ps.toList with
  | none =>
    refine wpAny_genexprCodeX hcode (cd.code tabAt2 ht) (cd.tab tabAt2) hf fun c1 h1 tk hx hge hlt hco _ htab _ => ?_
    obtain ⟨o1, vs, f1, tf, fl, tg, inF, tx, tt, op, _, _, _, _, _, _, _, _, _, htr, _⟩ := hco
    exact go _ h1 tk _ hx (Nat.le_trans hge (Nat.le_of_lt hlt)) htab.2 ⟨_, rfl⟩ htr
  | some cv =>
    refine wpAny_genexprCode_hit hcode (cd.code tabAt2 ht) hf ?_
    exact go cv (s1.heap.push o) s1.toks ps (Heap.ExtBut.refl _ _) (Nat.le_refl _) tabAt2 ⟨#[], by simp⟩ ht

theorem Rl.tabbed {W : Wd} {S : Ss} {P : Addr} {H2 : Hp} (R : Rl W S) (hP : P ∈ W.T) (h : GxR.Tabbed P S.H H2) : S.le { S with H := H2 } ∧ Rl W { S with H := H2 } := by
  obtain ⟨⟨ps2, e2, t2⟩, hne⟩ := h
  obtain ⟨ps, e1, t1⟩ := R.tab P hP
  have nP : ¬ S.own P := (hid_some.mp e1).2
  have l : S.le { S with H := H2 } := by
    refine ⟨⟨fun a o e => ?_, fun _ _ => rfl, Nat.le_refl _⟩, rfl⟩
    have e : hid S a = some o := e
    obtain ⟨g1, g2⟩ := hid_some.mp e
    by_cases ha : a = P
    · subst ha
      rw [e1] at e
      cases e
      exact .inr ⟨ps, ps2, rfl, hid_some.mpr ⟨e2, g2⟩, fun _ => t2⟩
    · exact .inl (hid_some.mpr ⟨(hne a ha).trans g1, g2⟩)
  refine ⟨l, R.inj, R.lt, fun k c e => (R.ok k c e).mono l.1 (hne _ fun z => nP (.inl ⟨k, c, e, z⟩)), fun a ha => tab_ext l.1.1 (R.tab a ha), fun a u e => ⟨(hne a fun z => nP (.inr ⟨u, by rw [← z]; exact e⟩)).trans (R.prv a u e).1, (R.prv a u e).2⟩⟩
theorem genFold_of {e : Expr} {env : PySem.Env} (h1 : isSetE e = false) (h2 : isSeqE e = false) : ∀ v, genFold e env v = pure v := by
  intro v
  cases e <;> first | rfl | (cases (show true = false from h1); done) | cases (show true = false from h2)
theorem all_ext {n : Nat} {f g : Nat → Bool} (h : ∀ i, i < n → f i = g i) : (List.range n).all f = (List.range n).all g := by
  rw [Bool.eq_iff_iff, List.all_eq_true, List.all_eq_true]
  exact ⟨fun z i hi => by rw [← h i (List.mem_range.mp hi)]; exact z i hi, fun z i hi => by rw [h i (List.mem_range.mp hi)]; exact z i hi⟩
variable {T : List Addr} {cls : Nat → Addr} {Wx : WX}
theorem PEs.one {W : Wd} {as : IR} {e : Expr} {Wx : WX} (h : PEs X W Wx as [e]) : ∃ a, as = .cons a .nil ∧ isStar e = false ∧ PE X e (DE W Wx a) := by
  cases as with
  | cons a r =>
    obtain ⟨h1, h2, h3⟩ := h
    cases r with
    | nil => exact ⟨a, rfl, h1, h2⟩
    | cons _ _ => exact (show False from h3).elim
    | _ => exact (show False from h3).elim
  | nil => cases (show [e] = [] from h)
  | _ => exact (show False from h).elim
theorem PEs.two {W : Wd} {as : IR} {e e' : Expr} {Wx : WX} (h : PEs X W Wx as [e, e']) : ∃ a a', as = .cons a (.cons a' .nil) ∧ isStar e = false ∧ PE X e (DE W Wx a) ∧ isStar e' = false ∧ PE X e' (DE W Wx a') := by
  cases as with
  | cons a r =>
    obtain ⟨h1, h2, h3⟩ := h
    obtain ⟨a', rfl, h4, h5⟩ := PEs.one h3
    exact ⟨a, a', rfl, h1, h2, h4, h5⟩
  | nil => cases (show [e, e'] = [] from h)
  | _ => exact (show False from h).elim
theorem PEs.three {W : Wd} {as : IR} {e e' e'' : Expr} {Wx : WX} (h : PEs X W Wx as [e, e', e'']) : ∃ a a' a'', as = .cons a (.cons a' (.cons a'' .nil)) ∧ isStar e = false ∧ PE X e (DE W Wx a) ∧ isStar e' = false ∧ PE X e' (DE W Wx a') ∧ isStar e'' = false ∧ PE X e'' (DE W Wx a'') := by
  cases as with
  | cons a r =>
    obtain ⟨h1, h2, h3⟩ := h
    obtain ⟨a', a'', rfl, h4, h5, h6, h7⟩ := PEs.two h3
    exact ⟨a, a', a'', rfl, h1, h2, h4, h5, h6, h7⟩
  | nil => cases (show [e, e', e''] = [] from h)
  | _ => exact (show False from h).elim
theorem PEs.none {W : Wd} {as : IR} {Wx : WX} (h : PEs X W Wx as []) : as = .nil := by
  cases as with
  | cons a r => exact (show False from h).elim
  | nil => rfl
  | _ => exact (show False from h).elim
/-- all(v in g for v in <text>), g a module's text z -/
def eAllS (z : Str) : EvE := fun _ ds μ Q _ => match ds with
  | [.str s] => Q (.bl (s.cps.toList.all fun c => decide (c ∈ z.cps.toList))) μ
  | _ => False
def fAllS (gz : Str) : XF := fun _ sc t e => match e with
  | .Call (.Name y _) [.GeneratorExp (.Compare (.Name v _) [.In] [.Name g _] _) [⟨.Name v' _, iter, [], as⟩] scope _] [] _ =>
    if as = 0 ∧ y = ("all" : Str) ∧ glB sc y = true ∧ t = true ∧ v = v' ∧ gz = g ∧ okName v = true ∧ okName g = true ∧ noFree scope = true ∧ scope.kind = .function ∧ scope.isCoroutine = false ∧ scope.names.lookup (".0" : Str) = some .local ∧ scope.names.lookup v = some .local ∧ scope.names.lookup g = some .globalImplicit ∧ isSetE iter = false ∧ isSeqE iter = false then some [iter] else none
  | _ => none
/-- all(v in g for v in range(a, b)), g a captured list -/
def eAllN (i : Nat) : EvE := fun δ ds μ Q _ => match ds, δ[i]? with
  | [.int m, .int n], some (some d) => match asLM d μ with
    | some ys => (-(2 ^ 62) ≤ m ∧ m < 2 ^ 62 ∧ -(2 ^ 62) ≤ n ∧ n < 2 ^ 62) ∧ ys.all flatD = true ∧ Q (.bl ((intsD m (n - m).toNat).all fun e => ys.any fun y => deq y e)) μ
    | none => False
  | _, _ => False
def fAllN (i : Nat) : XF := fun N sc t e => match e with
  | .Call (.Name y _) [.GeneratorExp (.Compare (.Name v _) [.In] [.Name g _] _) [⟨.Name v' _, .Call (.Name rg _) [e1, e2] [] _, [], as⟩] scope _] [] _ =>
    if as = 0 ∧ y = ("all" : Str) ∧ glB sc y = true ∧ rg = ("range" : Str) ∧ glB sc rg = true ∧ t = true ∧ v = v' ∧ okName v = true ∧ okName g = true ∧ (scope.names.all fun y => !decide (y.2 = .cell)) = true ∧ (scope.names.all fun y => !decide (y.2 = .free) || decide (sc.names.lookup y.1 = some .cell)) = true ∧ scope.kind = .function ∧ scope.isCoroutine = false ∧ scope.names.lookup (".0" : Str) = some .local ∧ scope.names.lookup v = some .local ∧ scope.names.lookup g = some .free ∧ N[i]? = some g ∧ sc.names.lookup g = some .cell ∧ isStar e1 = false ∧ isStar e2 = false then some [e1, e2] else none
  | _ => none
theorem d_allS {it : Expr} {f : XF} {v g : Str} {p1 p2 p3 p4 p5 : Pos} {z : Str} {ci : IR} (hr : Room k X.A) (hcd : CodeOk X T) (hn : X.mg "all" = none) (hz : ∃ t, X.mg g = some (.str z t)) (hi : PE X it (DE (wd X T cls) Wx ci)) (hg : Gl X "all")
    (h1 : okName v = true) (h2 : okName g = true) (h3 : noFree scope = true) (h4 : scope.kind = .function) (h5 : scope.isCoroutine = false) (h6 : scope.names.lookup (".0" : Str) = some .local) (h7 : scope.names.lookup v = some .local) (h8 : scope.names.lookup g = some .globalImplicit) (h9 : isSetE it = false) (h10 : isSeqE it = false) :
    PE X (.Call (.Name "all" p1) [.GeneratorExp (.Compare (.Name v p2) [.In] [.Name g p3] p4) [⟨.Name v p5, it, [], 0⟩] scope gpos] [] pos) (DE (wd X T cls) Wx (.nod f (eAllS z) (.cons ci .nil))) := by
  obtain ⟨c1, P, hcode, TB, hP⟩ := hcd
  have nf : ∀ y ∈ scope.names, y.2 ≠ .cell ∧ y.2 ≠ .free := fun y hy => by
    have q := List.all_eq_true.mp h3 y hy
    refine ⟨fun e => ?_, fun e => ?_⟩ <;> (rw [e] at q; cases q)
  refine ⟨fun pins s σ H Q I h => ?_⟩
  refine all_gen I hr hg hn TB hcode ⟨h4, h5, fun y hy => (nf y hy).1, h6, h7, fun y hy e => absurd e (nf y hy).2⟩ (genFold_of h9 h10) fun Q0 hQ0 => ?_
  have hd : DE (wd X T cls) Wx ci σ H fun u H1 => ∃ a : Str, u = .str a ∧ GxR.TabG H1 P ∧ ∀ H2, GxR.Tabbed P H1 H2 → Q (.bl (a.cps.toList.all fun c => decide (c ∈ z.cps.toList))) H2 := by
    obtain ⟨S, δ, QM, QX, rfl, R, hE, hw, hq, hx⟩ := h
    simp only [wpE, wpA] at hw
    refine ⟨S, δ, _, QX, rfl, R, hE, hw, fun S1 d1 v1 l1 R1 r1 w1 => ?_, hx⟩
    dsimp only [eAllS] at w1
    split at w1
    · rename_i a hds
      cases hds
      refine ⟨a, r1, R1.tabG hP, fun H2 hT => ?_⟩
      obtain ⟨l2, R2⟩ := R1.tabbed hP hT
      exact hq { S1 with H := H2 } (.bl _) _ (l1.trans l2) R2 rfl w1
    · exact w1.elim
  refine thn (hi.run pins s σ H _ I hd) fun u s1 ⟨v1, H1, I1, r1, a, e1, tb, q⟩ => ?_
  subst e1
  obtain ⟨t, rfl⟩ := r1
  refine wpAny_pyIter_str fun o St W hst => hQ0 s1 o H1 a.cps.size (GxR.trF (fun c => decide (c ∈ z.cps.toList)) a.cps.toList) ⟨I1, tb, SignAt a, St, fun hh => hh.Ns mainGlobals X.mg, W, hst, ?_, fun h' hk => ?_⟩ fun H2 hT => ?_
  · intro ce A1 E1 i u s2 m2 hA hs hgl hcl hPi hns hm hG
    obtain ⟨cc, tt, hcc, rfl⟩ := hPi
    refine wpAny_Compare1 (wpAny_Name (wpAny_loadName_local (by rw [hs]; exact h4) (show ce.scope.names.lookup v = some .local by rw [hs]; exact h7) hns hm ?_) (okN h1).1) (by rfl)
    obtain ⟨tz, hz⟩ := hz
    refine Calls.Name_function_global (by rw [hs]; exact h4) (show ce.scope.names.lookup g = some .globalImplicit by rw [hs]; exact h8) (Calls.loadGlobal_global (by rw [hgl]; exact hG) hz ?_) (okN h2).1
    refine PyProof.Rows.in_str ⟨?_, GxR.keeps_refl _⟩
    have e9 : a.cps.toList[i]? = some cc := by rw [Array.getElem?_toList]; exact hcc
    rw [GxR.trF_some e9, PySem.StrLaws.found_one z cc]
  · refine I1.mod.glob.keeps fun b u e => hk b u (fun zz => ?_) (I1.bk b u e)
    obtain ⟨ps, hp, _⟩ := tb
    have := (I1.bs b u e).2
    rw [zz, hp] at this
    cases this
  · rw [GxR.all_signs a]
    exact q H2 hT
theorem d_allN {f : XF} {i : Nat} {ea eb : Expr} {v g : Str} {p1 p2 p3 p4 p5 p6 p7 : Pos} {ca cb : IR} (hr : Room k X.A) (hcd : CodeOk X T) (hn : X.mg "all" = none) (hrn : X.mg "range" = none) (ha : PE X ea (DE (wd X T cls) Wx ca)) (hb : PE X eb (DE (wd X T cls) Wx cb)) (hg : Gl X "all") (hgr : Gl X "range")
    (h1 : okName v = true) (h2 : okName g = true) (h3 : ∀ y ∈ scope.names, y.2 ≠ .cell) (h3' : ∀ y ∈ scope.names, y.2 = .free → X.env.scope.names.lookup y.1 = some .cell) (h4 : scope.kind = .function) (h5 : scope.isCoroutine = false) (h6 : scope.names.lookup (".0" : Str) = some .local) (h7 : scope.names.lookup v = some .local) (h8 : scope.names.lookup g = some .free)
    (hN : X.N[i]? = some g) (hc : X.env.scope.names.lookup g = some .cell) (hs1 : isStar ea = false) (hs2 : isStar eb = false) :
    PE X (.Call (.Name "all" p1) [.GeneratorExp (.Compare (.Name v p2) [.In] [.Name g p3] p4) [⟨.Name v p5, .Call (.Name "range" p6) [ea, eb] [] p7, [], 0⟩] scope gpos] [] pos) (DE (wd X T cls) Wx (.nod f (eAllN i) (.cons ca (.cons cb .nil)))) := by
  obtain ⟨c1, P, hcode, TB, hP⟩ := hcd
  refine ⟨fun pins s σ H Q I h => ?_⟩
  refine all_gen I hr hg hn TB hcode ⟨h4, h5, h3, h6, h7, fun y hy e => I.ok.has y.1 (.inl (h3' y hy e))⟩ (fun _ => rfl) fun Q0 hQ0 => ?_
  have hA : PA X [ea, eb] (tCons (DE (wd X T cls) Wx ca) (tCons (DE (wd X T cls) Wx cb) tNil)) := pa_cons ha (pa_cons hb pa_nil (star_of hs2)) (star_of hs1)
  have hd : (tCons (DE (wd X T cls) Wx ca) (tCons (DE (wd X T cls) Wx cb) tNil)) σ H fun vs H1 => ∃ (m n : Int) (a : Addr) (xs : List V) (ys : List D) (vw : Vw), vs = [.int m, .int n] ∧ (-(2 ^ 62) ≤ m ∧ m < 2 ^ 62 ∧ -(2 ^ 62) ≤ n ∧ n < 2 ^ 62) ∧ σ[i]? = some (some (.ref a)) ∧ SqL X.K H1 a xs ∧ Reps X.K vw ys xs ∧ ys.all flatD = true ∧ GxR.TabG H1 P ∧
      ∀ H2, GxR.Tabbed P H1 H2 → Q (.bl ((intsD m (n - m).toNat).all fun e => ys.any fun y => deq y e)) H2 := by
    obtain ⟨S, δ, QM, QX, rfl, R, hE, hw, hq, hx⟩ := h
    simp only [wpE, wpA] at hw
    refine ⟨S, δ, _, QX, rfl, R, hE, hw, fun S1 d1 v1 l1 R1 r1 w1 => ⟨S1, δ, _, QX, rfl, R1, hE.mono l1.1, w1, fun S2 d2 v2 l2 R2 r2 w2 => ?_, hx.le l1⟩, hx⟩
    dsimp only [eAllN] at w2
    split at w2
    · rename_i m n d hds ed
      cases hds
      split at w2
      · rename_i ys e
        obtain ⟨vd, ev, rv⟩ := (hE.mono (l1.trans l2).1).2 i d ed
        obtain ⟨a, xs, e1, g1, q1⟩ := asLM_rep R2 rv e
        have f1 : v1 = .int m := r1
        have f2 : v2 = .int n := r2
        subst f1 f2 e1
        refine ⟨m, n, a, xs, ys, S2.vw, rfl, w2.1, ev, SqL.of g1, q1, w2.2.1, R2.tabG hP, fun H2 hT => ?_⟩
        obtain ⟨l3, R3⟩ := R2.tabbed hP hT
        exact hq { S2 with H := H2 } (.bl _) _ ((l1.trans l2).trans l3) R3 rfl w2.2.2
      · exact w2.elim
    · exact w2.elim
  have hst : starEach [ea, eb] X.env = (false, eval ea X.env) :: starEach [eb] X.env := star_of hs1
  refine wpAny_Call_Name_kw (ld_blt I hgr hrn (show bootBuiltins "range" = some (.type "range") by decide +kernel) (PyProof.Rows.callWith_type1 (thn (hA.run p7 pins s σ H _ I hd) fun us s1 ⟨vs, H1, I1, r1, m, n, a, xs, ys, vw, e1, hb2, ev, hl, rr, hf, tb, q⟩ => ?_) hst (back_of (by simp [hs2]))))
  subst e1
  obtain ⟨u1, u2, rfl, ru1, ru2⟩ := vals2 r1
  obtain ⟨t1, rfl⟩ := ru1
  obtain ⟨t2, rfl⟩ := ru2
  refine call_range_2 (wpAny_pyIter_range (IsRange.new ..) (small_one hb2.1 hb2.2.1 hb2.2.2.1 hb2.2.2.2) ?_)
  generalize hs3 : ({ s1 with heap := s1.heap.push { cls := .type "range", data := .fields #[.int m t1, .int n t2, .int 1 s1.toks] }, toks := s1.toks + 1 } : Shared) = s3
  have I3 : L2.Inv X pins σ H1 s3 := by
    rw [← hs3]
    exact I1.kept (t' := s1.toks + 1) fun b o e => Heap.get?_push_of_some _ e
  have k3 : ∀ b u, s1.heap.get? b = some u → s3.heap.get? b = some u := fun b u e => by
    rw [← hs3]
    exact Heap.get?_push_of_some _ e
  have eh : s1.heap.push { cls := .type "range", data := .fields #[.int m t1, .int n t2, .int 1 s1.toks] } = s3.heap := by rw [← hs3]
  obtain ⟨cg, hcg, hcellg⟩ : ∃ c, X.env.cells.lookup g = some c ∧ s3.heap.IsCell c (some (.ref a)) := by
    obtain ⟨mm, hn2, hl2⟩ := I3.loc
    obtain ⟨u, ru, lk⟩ := hl2 i g (.ref a) hN ev (.inr (.inl hc))
    rcases lk with ⟨kk, _⟩ | ⟨_, c, e, zc⟩
    · have kk : X.env.scope.names.lookup g = some .local := kk
      rw [hc] at kk
      cases kk
    · cases ru
      exact ⟨c, e, zc⟩
  obtain ⟨its, rv, pl, hz⟩ := I3.list hl
  have nf : ∀ b u, H1 b = none → s3.heap.get? b = some u → b ≠ P := fun b u e _ zz => by
    obtain ⟨ps, hp, _⟩ := tb
    rw [zz, hp] at e
    cases e
  have aP : a ≠ P := fun zz => by
    obtain ⟨o, n0, ho, hcl, _⟩ := pl
    obtain ⟨ps, hp, _⟩ := tb
    have := I3.hok P _ hp
    have this : s3.heap.get? P = some { cls := .none, data := .fields ps } := this
    rw [← zz, ho] at this
    cases this
    cases hcl
  refine hQ0 s3 _ H1 (n - m).toNat (fun j => ys.any fun y => deq y (.int (m + j))) ⟨I3, tb, fun j u => ∃ t, u = .int (m + (j : Nat) * 1) t, fun j h => IsRangeIter h s3.heap.objs.size (m + (j : Nat) * 1) (((n - m).toNat : Int) - (j : Nat)) 1, fun hh => hh.IsCell cg (some (.ref a)) ∧ PlainL hh a its.toArray, fun A1 hA => Walks.range hA _ m 1 _, ?_, ?_, fun h' hk => ?_⟩ fun H2 hT => ?_
  · show IsRangeIter _ _ (m + ((0 : Nat) : Int) * 1) (((n - m).toNat : Int) - ((0 : Nat) : Int)) 1
    have e2 : (((n - m).toNat : Nat) : Int) - ((0 : Nat) : Int) = Builtin.Range.rangeSize m n 1 := by rw [rangeSize_one]; split <;> omega
    rw [e2, show m + ((0 : Nat) : Int) * 1 = m by omega]
    exact Heap.get?_push_size _ rfl
  · intro ce A1 E1 j u s2 m2 hA hs hgl hcl hPi hns hm hG
    obtain ⟨tt, rfl⟩ := hPi
    obtain ⟨cl1, pl2⟩ := hG
    have hcg2 : ce.cells.lookup g = some cg := by
      rw [hcl]
      have hy : (g, NameKind.free) ∈ scope.names := PySem.mem_of_lookup h8
      obtain ⟨c', e'⟩ := mem_lookup (cloFrom_has (cells := X.env.cells) (acc := []) hy)
      rcases cloFrom_mem (PySem.mem_of_lookup e') with z | ⟨_, z⟩
      · cases z
      · rw [e', z, hcg]
        rfl
    refine wpAny_Compare1 (wpAny_Name (wpAny_loadName_local (by rw [hs]; exact h4) (show ce.scope.names.lookup v = some .local by rw [hs]; exact h7) hns hm ?_) (okN h1).1) (by rfl)
    refine wpAny_Name (wpAny_loadName_free (by rw [hs]; exact h4) (show ce.scope.names.lookup g = some .free by rw [hs]; exact h8) hcg2 cl1 ?_ (okN h2).2) (okN h2).1
    refine SeqAt.in_listAt (eqU (.int (m + (j : Nat) * 1))) pl2.isList (fun u' hu => mem_eqAt (x := .int (m + (j : Nat) * 1)) ⟨tt, rfl⟩ rfl rv (flats_rep hf rr) u' (by simpa using hu)) ⟨?_, GxR.keeps_refl _⟩
    have e5 : its.toArray.any (eqU (.int (m + (j : Nat) * 1))) = ys.any fun y => deq y (.int (m + j)) := by
      rw [show its.toArray.any (eqU (.int (m + (j : Nat) * 1))) = its.any (eqU (.int (m + (j : Nat) * 1))) by simp, any_eqU rv (flats_rep hf rr), show m + (j : Nat) * 1 = m + (j : Int) by omega]
      exact flat_any (w := vw) (e := .int (m + j)) rfl rfl hf rr
    rw [e5]
  · obtain ⟨o, n0, ho, h1', h2', h3'⟩ := pl
    refine ⟨?_, ⟨o, n0, hk a o aP ho, h1', h2', h3'⟩⟩
    obtain ⟨oc, hoc, hd⟩ := hcellg
    refine ⟨oc, hk cg oc (fun zz => ?_) hoc, hd⟩
    obtain ⟨ps, hp, _⟩ := tb
    have := I3.freeC g cg hcg
    rw [zz, hp] at this
    cases this
  · have e3 : (List.range (n - m).toNat).all (fun j => ys.any fun y => deq y (.int (m + j))) = (intsD m (n - m).toNat).all fun e => ys.any fun y => deq y e := by
      unfold intsD
      rw [List.all_map]
      rfl
    rw [e3]
    exact q H2 hT
variable {B : Bs} {cd : Prop}
theorem n_allS {gz z : Str} (h0 : cd) (h1 : B.mg "all" = none) (h2 : ∃ t, B.mg gz = some (.str z t)) : NodOk B T cls k cd (fAllS gz) (eAllS z) := by
  intro X top Wx e es as S hf hp
  unfold fAllS at hf
  split at hf
  · rename_i y p1 v p2 g p3 p4 v' p5 iter as0 scope p6 p7
    split at hf
    · rename_i hc
      obtain ⟨rfl, rfl, g1, ht, rfl, rfl, c1, c2, c3, c4, c5, c6, c7, c8, c9, c10⟩ := hc
      cases hf
      obtain ⟨ci, rfl, _, hi⟩ := hp.one
      have hB := S.bs
      subst hB
      exact d_allS S.g.room (S.co h0) h1 h2 hi (gl_of g1) c1 c2 c3 c4 c5 c6 c7 c8 c9 c10
    · cases hf
  · cases hf
theorem n_allN {i : Nat} (h0 : cd) (h1 : B.mg "all" = none) (h2 : B.mg "range" = none) : NodOk B T cls k cd (fAllN i) (eAllN i) := by
  intro X top Wx e es as S hf hp
  unfold fAllN at hf
  split at hf
  · rename_i y p1 v p2 g p3 p4 v' p5 rg p6 e1 e2 p7 as0 scope p8 p9
    split at hf
    · rename_i hc
      obtain ⟨rfl, rfl, g1, rfl, g2, ht, rfl, c1, c2, c3, c3', c4, c5, c6, c7, c8, c9, c10, c11, c12⟩ := hc
      cases hf
      obtain ⟨ca, cb, rfl, _, ha, _, hb⟩ := hp.two
      have hB := S.bs
      subst hB
      refine d_allN S.g.room (S.co h0) h1 h2 ha hb (gl_of g1) (gl_of g2) c1 c2 (fun y hy e => ?_) (fun y hy e => ?_) c4 c5 c6 c7 c8 c9 c10 c11 c12
      · have q := List.all_eq_true.mp c3 y hy
        simp [e] at q
      · have q := List.all_eq_true.mp c3' y hy
        simpa [e] using q
    · cases hf
  · cases hf
end
end M
end

section
set_option Elab.async false
set_option linter.all false
set_option maxRecDepth 100000
set_option maxHeartbeats 4000000
set_option autoImplicit false
/-! M: max(xs, default=d). -/
namespace M
open PySem PySem.Spec PyProof.Rows L2
section
variable {prog : Program} {w : World} {A : Around} {dv : Value}
theorem maxKw_turns {R : Result → Shared → Prop} {I : Addr} {fp wr : List Addr} {n : Nat} {P : Nat → Value → Prop} {St : Nat → Heap → Prop} (W : Walks prog w A.in1 I fp wr n P St) (bt : Nat → Nat → Bool) (gt : CmpOf prog w A.in1 .Gt P bt) (B : Addr) (nB : B ∉ fp) :
    ∀ (m j : Nat) (s : Shared) (old : List Value) (c : Nat), n = j + m → St j s.heap → (j = 0 ∧ old = [] ∨ ∃ u, 0 < j ∧ old = [u, u] ∧ P (argBest bt (j - 1)) u) →
      s.heap.get? B = some { cls := .type "list", dict := none, data := .seq old.toArray c, slots := #[] } →
      (∀ v h' tk, (n = 0 ∧ v = dv ∨ 0 < n ∧ P (argBest bt (n - 1)) v) → (∀ b o, b ∉ wr → b ≠ B → s.heap.get? b = some o → h'.get? b = some o) → R (.ok (.ret v)) { s with heap := h', toks := tk }) →
      codeAny (model prog w) A (.builtin "max.loop" ⟨[.ref I, .none, .ref B], [(Str.ofString "default", dv)]⟩) R s := by
  have wB : B ∉ wr := fun h => nB (W.sub _ h)
  intro m
  induction m with
  | zero =>
    intro j s old c hn st ho hB hR
    have hn : n = j := hn
    subst hn
    refine codeAny_builtin F.entry_max_loop ?_
    rw [Around.under_plainId F.plain_max_loop _]
    refine wpAny_bind (m := seqItems? (.ref B)) (wpAny_seqItems hB rfl ?_)
    refine wpAny_bind (m := tryCatch (pyNext (.ref I)) _) (wpAny_tryCatch (W.done s _ _ st fun h1 t1 k1 => ?_))
    have hB1 := k1 B _ wB hB
    rcases ho with ⟨rfl, rfl⟩ | ⟨u, hj, rfl, pu⟩
    · exact wpAny_bind (m := rule _) (wpAny_rule (wpAny_pure (hR dv _ t1 (.inl ⟨rfl, rfl⟩) fun b o hb _ e => k1 b o hb e)))
    · refine wpAny_bind (m := updateSeq B (fun _ => #[])) (wpAny_updateSeq hB1 rfl (wpAny_bind (wpAny_letGo (wpAny_pure ?_))))
      exact hR u _ t1 (.inr ⟨hj, pu⟩) fun b o hb hbB e => (Heap.get?_update_other _ _ (Ne.symm hbB)).trans (k1 b o hb e)
  | succ m ih =>
    intro j s old c hn st ho hB hR
    have lt : j < n := by omega
    refine codeAny_builtin F.entry_max_loop ?_
    rw [Around.under_plainId F.plain_max_loop _]
    refine wpAny_bind (m := seqItems? (.ref B)) (wpAny_seqItems hB rfl ?_)
    refine wpAny_bind (m := tryCatch (pyNext (.ref I)) _) (wpAny_tryCatch (W.item j s _ _ lt st fun v h1 t1 pv st1 k1 => ?_))
    have hB1 := k1 B _ wB hB
    -- one more turn behind a write to the best's list
    have more : ∀ (f : Array Value → Array Value) (u : Value), f old.toArray = #[u, u] → P (argBest bt j) u →
        codeAny (model prog w) A (.builtin "max.loop" ⟨[.ref I, .none, .ref B], [(Str.ofString "default", dv)]⟩) R { s with heap := h1.update B (Obj.mapSeq f), toks := t1 } := fun f u ef pu =>
      ih (j + 1) _ [u, u] _ (by omega) (W.frame _ _ _ st1 fun b hb o e => (Heap.get?_update_other _ _ (fun z : B = b => nB (by rw [z]; exact hb))).trans e) (.inr ⟨u, Nat.succ_pos j, rfl, pu⟩) (by
          have := Heap.get?_update_self (Obj.mapSeq f) hB1 rfl
          rw [this]

          unfold Obj.mapSeq
          dsimp only
          rw [ef]) fun v' h2 t2 pv' k2 =>
        hR v' h2 t2 pv' fun b o hb hbB e => k2 b o hb hbB ((Heap.get?_update_other _ _ (Ne.symm hbB)).trans (k1 b o hb e))
    rcases ho with ⟨rfl, rfl⟩ | ⟨u, hj, rfl, pu⟩
    · refine wpAny_bind (m := updateSeq B (fun _ => #[v, v])) (wpAny_updateSeq hB1 rfl ?_)
      exact wpAny_pure ⟨plainId_quiet F.plain_max_loop _, more _ v rfl pv⟩
    · have ej : j = (j - 1) + 1 := by omega
      refine wpAny_bind (m := tryCatch (holding [v, v] (richCompare .Gt v u >>= _)) _) (wpAny_tryCatch (wpAny_holding (wpAny_bind (gt j (argBest bt (j - 1)) v u _ _ _ pv pu ?_))))
      refine wpAny_bind (wpAny_holding (wpAny_truthy_bool (wpAny_bind (wpAny_letGo (wpAny_pure ?_)))))
      cases hb : bt j (argBest bt (j - 1)) with
      | true =>
        simp only [if_true]
        refine wpAny_bind (wpAny_updateSeq hB1 rfl (wpAny_bind (wpAny_letGo ?_)))
        refine wpAny_pure ⟨plainId_quiet F.plain_max_loop _, more _ v rfl ?_⟩
        rw [ej]
        show P (if bt (j - 1 + 1) (argBest bt (j - 1)) then j - 1 + 1 else argBest bt (j - 1)) v
        rw [← ej, hb, if_pos rfl]
        exact pv
      | false =>
        simp only [Bool.false_eq_true, if_false]
        refine wpAny_bind (wpAny_letGo ?_)
        refine wpAny_pure ⟨plainId_quiet F.plain_max_loop _, ih (j + 1) _ [u, u] _ (by omega) st1 (.inr ⟨u, Nat.succ_pos j, rfl, ?_⟩) hB1 fun v' h2 t2 pv' k2 => hR v' h2 t2 pv' fun b o hbw hbB e => k2 b o hbw hbB (k1 b o hbw e)⟩
        show P (argBest bt j) u
        rw [ej]
        show P (if bt (j - 1 + 1) (argBest bt (j - 1)) then j - 1 + 1 else argBest bt (j - 1)) u
        rw [← ej, hb, if_neg Bool.false_ne_true]
        exact pu
theorem call_maxKw {x : Value} {E : Value → Shared → Prop} {s : Shared} {Q : Value → Shared → Prop}
    (h : wpAny (model prog w) A.in1 (pyIter x) (fun it s2 => ∃ I fp wr n P St bt, it = .ref I ∧ Walks prog w A.in1 I fp wr n P St ∧ St 0 s2.heap ∧ (∀ b ∈ fp, b < s2.heap.objs.size) ∧ CmpOf prog w A.in1 .Gt P bt ∧
      ∀ v h' tk, (n = 0 ∧ v = dv ∨ 0 < n ∧ P (argBest bt (n - 1)) v) → (∀ b o, b ∉ wr → s2.heap.get? b = some o → h'.get? b = some o) → Q v { s2 with heap := h', toks := tk }) E s) :
    wpAny (model prog w) A (call (.builtin "max") [x] [(Str.ofString "default", dv)]) Q E s := by
  refine wpAny_call (codeAny_call_builtin F.plain_max F.entry_max ?_)
  simp only [checkBuiltinCall, F.kind_max]
  have sg : ∃ sig, Manifest.signature? "max" = some sig ∧ Bind.checkArgs "max" sig ⟨[x], [(Str.ofString "default", dv)]⟩ = pure () := ⟨_, rfl, by kernel_rfl⟩
  obtain ⟨sig, e1, e2⟩ := sg
  rw [e1]
  show wpAny _ A.in1 (Bind.checkArgs "max" sig ⟨[x], [(Str.ofString "default", dv)]⟩) _ _ s
  rw [e2]
  refine wpAny_pure ?_
  refine wpAny_bind (m := Builtin.Builtins.bindParams "max" ["key", "default"] 0 ⟨[], [(Str.ofString "default", dv)]⟩) (wpAny_of_eq (show Builtin.Builtins.bindParams "max" ["key", "default"] 0 ⟨[], [(Str.ofString "default", dv)]⟩ = pure [none, some dv] from by first | rfl | kernel_rfl) ?_)
  refine wpAny_bind (wpAny_pure ?_)
  refine wpAny_bind (wpAny_mono h (fun it s2 h2 => ?_) fun _ _ e => e)
  obtain ⟨I, fp, wr, n, P, St, bt, rfl, W, st, hfp, gt, hQ⟩ := h2
  refine wpAny_bind (wpAny_newObj_type ?_)
  refine wpAny_pure ⟨plainId_quiet F.plain_max_loop _, ?_⟩
  exact maxKw_turns W bt gt s2.heap.objs.size (fun hm => Nat.lt_irrefl _ (hfp _ hm)) n 0 _ [] _ (by omega) (W.frame _ _ _ st fun b _ o e => Heap.get?_push_of_some _ e) (.inl ⟨rfl, rfl⟩) (Heap.get?_push_size _ rfl) fun v h' tk hv hk =>
    hQ v h' tk hv fun b o hb e => hk b o hb (Nat.ne_of_lt (Heap.lt_size e)) (Heap.get?_push_of_some _ e)
end
end M
end

section
set_option Elab.async false
set_option linter.all false
set_option maxRecDepth 100000
set_option maxHeartbeats 4000000
set_option autoImplicit false
/-! M: soundness. -/
namespace M
open PySem PySem.Spec PyProof.Rows L2
section
variable {B : Bs} {T : List Addr} {cls : Nat → Addr} {k : Nat}
theorem stars_of {N : List Str} : ∀ {c : IR} {sc : Scope} {t : Bool} {es : List Expr}, chkA N c sc t es = true → (es.all fun e => !isStar e) = true
  | c, sc, t, [], _ => rfl
  | c, sc, t, e :: es, h => by
    cases c with
    | cons a r =>
      simp only [chkA, Bool.and_eq_true] at h
      rw [List.all_cons, h.1.1, stars_of h.2]
      rfl
    | _ => cases (show false = true from h)
theorem starsG_of {N : List Str} : ∀ {c : IR} {sc : Scope} {t : Bool} {es : List Expr}, chkGs N c sc t es = true → (es.all fun e => !isStar e) = true
  | c, sc, t, [], _ => rfl
  | c, sc, t, e :: es, h => by
    cases c with
    | cons a r =>
      simp only [chkGs, Bool.and_eq_true] at h
      rw [List.all_cons, h.1.1, starsG_of h.2]
      rfl
    | _ => cases (show false = true from h)
theorem assignEach_len {env : PySem.Env} : ∀ {es : List Expr}, (es.all fun e => !isStar e) = true → (assignEach es env).length = es.length
  | [], _ => rfl
  | e :: es, h => by
    rw [List.all_cons, Bool.and_eq_true, Bool.not_eq_true'] at h
    rw [assignEach_of h.1, List.length_cons, List.length_cons, assignEach_len h.2]
theorem assignEach_idx {env : PySem.Env} : ∀ {es : List Expr}, (es.all fun e => !isStar e) = true → (assignEach es env).findIdx? (·.1) = none
  | [], _ => rfl
  | e :: es, h => by
    rw [List.all_cons, Bool.and_eq_true, Bool.not_eq_true'] at h
    rw [assignEach_of h.1, List.findIdx?_cons]
    rw [assignEach_idx h.2]
    rfl
theorem Sd.blk {X : Cx} {top : Bool} {cd : Prop} {Wx : WX} (h : Sd B T k X top cd Wx) (s : Shared) (H : Hp) (scope : Scope) (ce : PySem.Env) (fp : List Addr) : Sd B T k (X.blk s H scope ce fp) false False W0 := ⟨h.bs, h.g.blk s H scope ce fp, fun z => z.elim, takesF, fun _ z => z, fun z => by cases z⟩
theorem opt_of {X : Cx} {Wx : WX} {c : IR} {e : Option Expr} {f : Expr → Bool} (g : ∀ e, f e = true → PE X e (DE (wd X T cls) Wx c)) (h : chkOpt c e f = true) : PO X e (DO (wd X T cls) Wx c) := by
  unfold chkOpt at h
  split at h
  · exact d_onone
  · cases h
  · rename_i hn
    exact d_osome (fun z => hn z) (g _ h)
  · cases h
theorem tests_of {X : Cx} {Wx : WX} {c : IR} {es : List Expr} {f : Expr → Bool} (g : ∀ e, f e = true → PT X e (DT (wd X T cls) Wx c)) (h : chkTs c es f = true) : PTs X es (DT (wd X T cls) Wx c) := by
  unfold chkTs at h
  split at h
  · exact ts_nil
  · cases h
  · exact ts_one (g _ h)
  · cases h
theorem pa_of {X : Cx} {Wx : WX} : ∀ (c : IR) {es : List Expr}, PEs X (wd X T cls) Wx c es → PA X es (DA (wd X T cls) Wx c)
  | c, [], h => by
    cases c with
    | nil => exact d_anil
    | cons _ _ => exact (show False from h).elim
    | _ => exact (show False from h).elim
  | c, e :: es, h => by
    cases c with
    | nil => cases (show e :: es = [] from h)
    | cons a r =>
      obtain ⟨h1, h2, h3⟩ := h
      exact d_acons h2 (pa_of r h3) (star_of h1)
    | _ => exact (show False from h).elim
mutual
theorem sndE : ∀ (c : IR) {cd : Prop} {top : Bool} {X : Cx} {Wx : WX} {e : Expr}, Sd B T k X top cd Wx → okE B T cls k cd c → chkE X.N c X.env.scope top e = true → PE X e (DE (wd X T cls) Wx c)
  | .var i, cd, top, X, Wx, e, S, ok, h => by
    cases e with
    | Name x pos =>
      simp only [chkE, Bool.and_eq_true, decide_eq_true_eq, Bool.not_eq_true'] at h
      obtain ⟨⟨h1, h2⟩, h3⟩ := h
      exact d_var h1 (vis_of h2) (okN h3).1 (okN h3).2
    | _ => cases (show false = true from h)
  | .con d, cd, top, X, Wx, e, S, ok, h => by
    cases e with
    | Constant c j pos =>
      simp only [chkE] at h
      cases d <;> cases c <;> simp only [conB, decide_eq_true_eq, beq_iff_eq] at h <;> first | (cases h; done) | skip
      · exact d_con pe_non fun _ => rfl
      · subst h; exact d_con pe_bl fun _ => rfl
      · subst h; exact d_con pe_int fun _ => rfl
      · subst h; exact d_con pe_str fun _ => rfl
    | _ => cases (show false = true from h)
  | .glb x d, cd, top, X, Wx, e, S, ok, h => by
    cases e with
    | Name y pos =>
      simp only [chkE, Bool.and_eq_true, decide_eq_true_eq] at h
      obtain ⟨⟨rfl, h2⟩, h3⟩ := h
      have hB := S.bs
      obtain ⟨u, v, hm, hr, hv⟩ := (show GlC (Cx.bs X) x d from hB ▸ ok)
      exact d_glb (pe_glob (gl_of h2) hm hr (okN h3).1) hv
    | _ => cases (show false = true from h)
  | .bty n, cd, top, X, Wx, e, S, ok, h => by
    cases e with
    | Name y pos =>
      simp only [chkE, Bool.and_eq_true, decide_eq_true_eq] at h
      obtain ⟨⟨rfl, h2⟩, h3⟩ := h
      have hB := S.bs
      obtain ⟨hm, hv, hn⟩ := (show BtC (Cx.bs X) n from hB ▸ ok)
      exact d_bty (pe_bltn (gl_of h2) hm hv rfl hn (okN h3).1)
    | _ => cases (show false = true from h)
  | .bin o a b, cd, top, X, Wx, e, S, ok, h => by
    cases e with
    | BinOp l p r pos =>
      simp only [chkE, Bool.and_eq_true, decide_eq_true_eq, Bool.not_eq_true'] at h
      obtain ⟨⟨rfl, h1⟩, h2⟩ := h
      exact d_bin (sndE a S ok.1 h1) (sndE b S ok.2 h2)
    | _ => cases (show false = true from h)
  | .neg a, cd, top, X, Wx, e, S, ok, h => by
    cases e with
    | UnaryOp op x pos =>
      cases op <;> simp only [chkE] at h <;> first | (cases h; done) | exact d_neg (sndE a S ok h)
    | _ => cases (show false = true from h)
  | .notV a, cd, top, X, Wx, e, S, ok, h => by
    cases e with
    | UnaryOp op x pos =>
      cases op <;> simp only [chkE] at h <;> first | (cases h; done) | exact d_not (sndE a S ok h)
    | _ => cases (show false = true from h)
  | .cmp o a b, cd, top, X, Wx, e, S, ok, h => by
    cases e with
    | Compare l ops cs pos =>
      rcases ops with _ | ⟨p, _ | ⟨p', ops⟩⟩ <;> rcases cs with _ | ⟨r, _ | ⟨r', cs⟩⟩ <;> first | (cases (show false = true from h); done) | skip
      simp only [chkE, Bool.and_eq_true, decide_eq_true_eq, Bool.not_eq_true'] at h
      obtain ⟨⟨⟨rfl, h1⟩, h2⟩, h3⟩ := h
      exact d_cmp S.g.room (sndE a S ok.1 h2) (sndE b S ok.2 h3) h1
    | _ => cases (show false = true from h)
  | .chn o o' a b c, cd, top, X, Wx, e, S, ok, h => by
    cases e with
    | Compare l ops cs pos =>
      rcases ops with _ | ⟨p, _ | ⟨p', _ | ⟨p'', ops⟩⟩⟩ <;> rcases cs with _ | ⟨r, _ | ⟨r', _ | ⟨r'', cs⟩⟩⟩ <;> first | (cases (show false = true from h); done) | skip
      simp only [chkE, Bool.and_eq_true, decide_eq_true_eq, Bool.not_eq_true'] at h
      obtain ⟨⟨⟨⟨⟨rfl, rfl⟩, h1⟩, h2⟩, h3⟩, h4⟩ := h
      exact d_chn S.g.room (sndE a S ok.1 h2) (sndE b S ok.2.1 h3) (sndE c S ok.2.2 h4) h1
    | _ => cases (show false = true from h)
  | .one a, cd, top, X, Wx, e, S, ok, h => by
    cases e with
    | BoolOp op es pos =>
      rcases es with _ | ⟨x, _ | ⟨y, es⟩⟩ <;> first | (cases (show false = true from h); done) | skip
      simp only [chkE] at h
      exact d_one (sndE a S ok h)
    | _ => cases (show false = true from h)
  | .andV a r, cd, top, X, Wx, e, S, ok, h => by
    cases e with
    | BoolOp op es pos =>
      cases op <;> rcases es with _ | ⟨x, _ | ⟨y, es⟩⟩ <;> first | (cases (show false = true from h); done) | skip
      simp only [chkE, Bool.and_eq_true] at h
      exact d_and (sndE a S ok.1 h.1) (sndE r S ok.2 h.2)
    | _ => cases (show false = true from h)
  | .orV a r, cd, top, X, Wx, e, S, ok, h => by
    cases e with
    | BoolOp op es pos =>
      cases op <;> rcases es with _ | ⟨x, _ | ⟨y, es⟩⟩ <;> first | (cases (show false = true from h); done) | skip
      simp only [chkE, Bool.and_eq_true] at h
      exact d_or (sndE a S ok.1 h.1) (sndE r S ok.2 h.2)
    | _ => cases (show false = true from h)
  | .ife c a b, cd, top, X, Wx, e, S, ok, h => by
    cases e with
    | IfExp x y z pos =>
      simp only [chkE, Bool.and_eq_true, decide_eq_true_eq, Bool.not_eq_true'] at h
      exact d_ife (sndT c S ok.1 h.1.1) (sndE a S ok.2.1 h.1.2) (sndE b S ok.2.2 h.2)
    | _ => cases (show false = true from h)
  | .ix a i, cd, top, X, Wx, e, S, ok, h => by
    cases e with
    | Subscript x y pos =>
      simp only [chkE, Bool.and_eq_true, Bool.not_eq_true'] at h
      exact d_ix (sndE a S ok.1 h.1.2) (sndE i S ok.2 h.2) (plainIx_of h.1.1)
    | _ => cases (show false = true from h)
  | .sl a lo hi, cd, top, X, Wx, e, S, ok, h => by
    cases e with
    | Subscript x y pos =>
      cases y with
      | Slice l u st p2 =>
        cases st with
        | none =>
          simp only [chkE, Bool.and_eq_true] at h
          exact d_sl (sndE a S ok.1 h.1.1) (opt_of (fun e he => sndE lo S ok.2.1 he) h.1.2) (opt_of (fun e he => sndE hi S ok.2.2 he) h.2)
        | some _ => cases (show false = true from h)
      | _ => cases (show false = true from h)
    | _ => cases (show false = true from h)
  | .tupC as, cd, top, X, Wx, e, S, ok, h => by
    cases e with
    | Tuple es j pos =>
      simp only [chkE] at h
      exact d_tup (pa_of as (sndL as S ok h))
    | _ => cases (show false = true from h)
  | .lstC as, cd, top, X, Wx, e, S, ok, h => by
    cases e with
    | List es pos =>
      simp only [chkE] at h
      exact d_lst (pa_of as (sndL as S ok h))
    | _ => cases (show false = true from h)
  | .lstM as, cd, top, X, Wx, e, S, ok, h => by
    cases e with
    | List es pos =>
      simp only [chkE] at h
      exact d_lstM (pa_of as (sndL as S ok h))
    | _ => cases (show false = true from h)
  | .cal x sp as, cd, top, X, Wx, e, S, ok, h => by
    cases e with
    | Call f es kws pos =>
      cases f with
      | Name y p =>
        cases kws with
        | nil =>
          simp only [chkE, Bool.and_eq_true, decide_eq_true_eq, Bool.not_eq_true'] at h
          obtain ⟨⟨⟨rfl, h2⟩, h3⟩, h4⟩ := h
          have hB := S.bs
          cases es with
          | nil => cases h3
          | cons e es =>
            have hs := stars_of h4
            have hs' := hs
            rw [List.all_cons, Bool.and_eq_true, Bool.not_eq_true'] at hs'
            exact d_cal S.g.room S.g.calm S.tk (show CalC (Cx.bs X) T cls k x sp from hB ▸ ok.1) (gl_of h2) (pa_of as (sndL as S ok.2 h4)) (star_of hs'.1) (back_of hs'.2)
        | cons _ _ => cases (show false = true from h)
      | _ => cases (show false = true from h)
    | _ => cases (show false = true from h)
  | .bme Ty id m sp o as, cd, top, X, Wx, e, S, ok, h => by
    cases e with
    | Call f es kws pos =>
      cases f with
      | Attribute x a apos =>
        cases kws with
        | nil =>
          simp only [chkE, Bool.and_eq_true, decide_eq_true_eq, Bool.not_eq_true'] at h
          obtain ⟨⟨⟨⟨⟨⟨rfl, h1⟩, h2⟩, h3⟩, h4⟩, h5⟩, h6⟩ := h
          have hB := S.bs
          cases es with
          | nil => cases h2
          | cons e es => exact d_bme S.g.room S.g.calm (show MtC (Cx.bs X) T cls k Ty id m sp from hB ▸ ok.1) (sndE o S ok.2.1 h5) (pa_of as (sndL as S ok.2.2 h6)) h1 (stars_of h6) h3 h4
        | cons _ _ => cases (show false = true from h)
      | _ => cases (show false = true from h)
    | _ => cases (show false = true from h)
  | .cpr own g it t e', cd, top, X, Wx, e, S, ok, h => by
    cases e with
    | ListComp elt gs scope pos =>
      rcases gs with _ | ⟨⟨tg, iter, ifs, as⟩, _ | ⟨g2, gs⟩⟩ <;> first | (cases (show false = true from h); done) | (simp [chkE] at h; done) | skip
      simp only [chkE, Bool.and_eq_true, Bool.not_eq_true', List.all_eq_true, decide_eq_true_eq] at h
      obtain ⟨⟨⟨⟨⟨⟨⟨rfl, h1⟩, h2⟩, h3⟩, h4⟩, h5⟩, h6⟩, h7⟩ := h
      exact d_cpr S.g.calm S.g.nd (sndI it S ok.1 h4) (blkOk_by h1) h2 (fun s H C cl fp => sndG g (S.blk s H scope _ fp) ok.2.1 h5) (fun s H C cl fp => tests_of (fun e he => sndT t (S.blk s H scope _ fp) ok.2.2.1 he) h6) (fun s H C cl fp => sndE e' (S.blk s H scope _ fp) ok.2.2.2 h7) (set_of h3)
    | _ => cases (show false = true from h)
  | .frz a, cd, top, X, Wx, e, S, ok, h => by
    simp only [chkE] at h
    exact d_frz (sndE a S ok h)
  | .nod f ev as, cd, top, X, Wx, e, S, ok, h => by
    simp only [chkE] at h
    split at h
    · rename_i es he
      exact ok.1 X top Wx e es as S he (sndL as S ok.2 h)
    · cases h
  | .nop, cd, top, X, Wx, e, S, ok, h => nomatch (show false = true from h)
  | .nil, cd, top, X, Wx, e, S, ok, h => nomatch (show false = true from h)
  | .cons _ _, cd, top, X, Wx, e, S, ok, h => nomatch (show false = true from h)
  | .tV _, cd, top, X, Wx, e, S, ok, h => nomatch (show false = true from h)
  | .tNot _, cd, top, X, Wx, e, S, ok, h => nomatch (show false = true from h)
  | .tOne _, cd, top, X, Wx, e, S, ok, h => nomatch (show false = true from h)
  | .tAnd _ _, cd, top, X, Wx, e, S, ok, h => nomatch (show false = true from h)
  | .tOr _ _, cd, top, X, Wx, e, S, ok, h => nomatch (show false = true from h)
  | .tnd _ _ _, cd, top, X, Wx, e, S, ok, h => nomatch (show false = true from h)
  | .ind _ _ _, cd, top, X, Wx, e, S, ok, h => nomatch (show false = true from h)
  | .itV _, cd, top, X, Wx, e, S, ok, h => nomatch (show false = true from h)
  | .itR1 _, cd, top, X, Wx, e, S, ok, h => nomatch (show false = true from h)
  | .itR2 _ _, cd, top, X, Wx, e, S, ok, h => nomatch (show false = true from h)
  | .gN _, cd, top, X, Wx, e, S, ok, h => nomatch (show false = true from h)
  | .gT _ _, cd, top, X, Wx, e, S, ok, h => nomatch (show false = true from h)
  | .gSub _ _, cd, top, X, Wx, e, S, ok, h => nomatch (show false = true from h)
  | .asg _ _, cd, top, X, Wx, e, S, ok, h => nomatch (show false = true from h)
  | .asc _ _, cd, top, X, Wx, e, S, ok, h => nomatch (show false = true from h)
  | .exp _, cd, top, X, Wx, e, S, ok, h => nomatch (show false = true from h)
  | .ret _, cd, top, X, Wx, e, S, ok, h => nomatch (show false = true from h)
  | .ret0, cd, top, X, Wx, e, S, ok, h => nomatch (show false = true from h)
  | .ifS _ _ _, cd, top, X, Wx, e, S, ok, h => nomatch (show false = true from h)
  | .whl _ _, cd, top, X, Wx, e, S, ok, h => nomatch (show false = true from h)
  | .fr _ _ _, cd, top, X, Wx, e, S, ok, h => nomatch (show false = true from h)
  | .brk, cd, top, X, Wx, e, S, ok, h => nomatch (show false = true from h)
  | .cnt, cd, top, X, Wx, e, S, ok, h => nomatch (show false = true from h)
  | .pas, cd, top, X, Wx, e, S, ok, h => nomatch (show false = true from h)
  | .sno _ _ _, cd, top, X, Wx, e, S, ok, h => nomatch (show false = true from h)
  | .nev, cd, top, X, Wx, e, S, ok, h => nomatch (show false = true from h)
  | .seq _ _, cd, top, X, Wx, e, S, ok, h => nomatch (show false = true from h)
theorem sndL : ∀ (c : IR) {cd : Prop} {top : Bool} {X : Cx} {Wx : WX} {es : List Expr}, Sd B T k X top cd Wx → okE B T cls k cd c → chkA X.N c X.env.scope top es = true → PEs X (wd X T cls) Wx c es
  | .nil, cd, top, X, Wx, es, S, ok, h => by
    cases es with
    | nil => exact rfl
    | cons _ _ => cases (show false = true from h)
  | .cons a r, cd, top, X, Wx, es, S, ok, h => by
    cases es with
    | nil => cases (show false = true from h)
    | cons e es =>
      simp only [chkA, Bool.and_eq_true, Bool.not_eq_true'] at h
      exact ⟨h.1.1, sndE a S ok.1 h.1.2, sndL r S ok.2 h.2⟩
  | .nop, cd, top, X, Wx, es, S, ok, h => nomatch (show false = true from h)
  | .var _, cd, top, X, Wx, es, S, ok, h => nomatch (show false = true from h)
  | .con _, cd, top, X, Wx, es, S, ok, h => nomatch (show false = true from h)
  | .glb _ _, cd, top, X, Wx, es, S, ok, h => nomatch (show false = true from h)
  | .bty _, cd, top, X, Wx, es, S, ok, h => nomatch (show false = true from h)
  | .bin _ _ _, cd, top, X, Wx, es, S, ok, h => nomatch (show false = true from h)
  | .neg _, cd, top, X, Wx, es, S, ok, h => nomatch (show false = true from h)
  | .cmp _ _ _, cd, top, X, Wx, es, S, ok, h => nomatch (show false = true from h)
  | .chn _ _ _ _ _, cd, top, X, Wx, es, S, ok, h => nomatch (show false = true from h)
  | .one _, cd, top, X, Wx, es, S, ok, h => nomatch (show false = true from h)
  | .andV _ _, cd, top, X, Wx, es, S, ok, h => nomatch (show false = true from h)
  | .orV _ _, cd, top, X, Wx, es, S, ok, h => nomatch (show false = true from h)
  | .notV _, cd, top, X, Wx, es, S, ok, h => nomatch (show false = true from h)
  | .ife _ _ _, cd, top, X, Wx, es, S, ok, h => nomatch (show false = true from h)
  | .ix _ _, cd, top, X, Wx, es, S, ok, h => nomatch (show false = true from h)
  | .sl _ _ _, cd, top, X, Wx, es, S, ok, h => nomatch (show false = true from h)
  | .tupC _, cd, top, X, Wx, es, S, ok, h => nomatch (show false = true from h)
  | .lstC _, cd, top, X, Wx, es, S, ok, h => nomatch (show false = true from h)
  | .lstM _, cd, top, X, Wx, es, S, ok, h => nomatch (show false = true from h)
  | .cal _ _ _, cd, top, X, Wx, es, S, ok, h => nomatch (show false = true from h)
  | .bme _ _ _ _ _ _, cd, top, X, Wx, es, S, ok, h => nomatch (show false = true from h)
  | .cpr _ _ _ _ _, cd, top, X, Wx, es, S, ok, h => nomatch (show false = true from h)
  | .frz _, cd, top, X, Wx, es, S, ok, h => nomatch (show false = true from h)
  | .nod _ _ _, cd, top, X, Wx, es, S, ok, h => nomatch (show false = true from h)
  | .tV _, cd, top, X, Wx, es, S, ok, h => nomatch (show false = true from h)
  | .tNot _, cd, top, X, Wx, es, S, ok, h => nomatch (show false = true from h)
  | .tOne _, cd, top, X, Wx, es, S, ok, h => nomatch (show false = true from h)
  | .tAnd _ _, cd, top, X, Wx, es, S, ok, h => nomatch (show false = true from h)
  | .tOr _ _, cd, top, X, Wx, es, S, ok, h => nomatch (show false = true from h)
  | .tnd _ _ _, cd, top, X, Wx, es, S, ok, h => nomatch (show false = true from h)
  | .ind _ _ _, cd, top, X, Wx, es, S, ok, h => nomatch (show false = true from h)
  | .itV _, cd, top, X, Wx, es, S, ok, h => nomatch (show false = true from h)
  | .itR1 _, cd, top, X, Wx, es, S, ok, h => nomatch (show false = true from h)
  | .itR2 _ _, cd, top, X, Wx, es, S, ok, h => nomatch (show false = true from h)
  | .gN _, cd, top, X, Wx, es, S, ok, h => nomatch (show false = true from h)
  | .gT _ _, cd, top, X, Wx, es, S, ok, h => nomatch (show false = true from h)
  | .gSub _ _, cd, top, X, Wx, es, S, ok, h => nomatch (show false = true from h)
  | .asg _ _, cd, top, X, Wx, es, S, ok, h => nomatch (show false = true from h)
  | .asc _ _, cd, top, X, Wx, es, S, ok, h => nomatch (show false = true from h)
  | .exp _, cd, top, X, Wx, es, S, ok, h => nomatch (show false = true from h)
  | .ret _, cd, top, X, Wx, es, S, ok, h => nomatch (show false = true from h)
  | .ret0, cd, top, X, Wx, es, S, ok, h => nomatch (show false = true from h)
  | .ifS _ _ _, cd, top, X, Wx, es, S, ok, h => nomatch (show false = true from h)
  | .whl _ _, cd, top, X, Wx, es, S, ok, h => nomatch (show false = true from h)
  | .fr _ _ _, cd, top, X, Wx, es, S, ok, h => nomatch (show false = true from h)
  | .brk, cd, top, X, Wx, es, S, ok, h => nomatch (show false = true from h)
  | .cnt, cd, top, X, Wx, es, S, ok, h => nomatch (show false = true from h)
  | .pas, cd, top, X, Wx, es, S, ok, h => nomatch (show false = true from h)
  | .sno _ _ _, cd, top, X, Wx, es, S, ok, h => nomatch (show false = true from h)
  | .nev, cd, top, X, Wx, es, S, ok, h => nomatch (show false = true from h)
  | .seq _ _, cd, top, X, Wx, es, S, ok, h => nomatch (show false = true from h)
theorem sndT : ∀ (c : IR) {cd : Prop} {top : Bool} {X : Cx} {Wx : WX} {e : Expr}, Sd B T k X top cd Wx → okE B T cls k cd c → chkT X.N c X.env.scope top e = true → PT X e (DT (wd X T cls) Wx c)
  | .cmp o a b, cd, top, X, Wx, e, S, ok, h => by
    cases e with
    | Compare l ops cs pos =>
      rcases ops with _ | ⟨p, _ | ⟨p', ops⟩⟩ <;> rcases cs with _ | ⟨r, _ | ⟨r', cs⟩⟩ <;> first | (cases (show false = true from h); done) | skip
      simp only [chkT, Bool.and_eq_true, decide_eq_true_eq, Bool.not_eq_true'] at h
      obtain ⟨⟨⟨rfl, h1⟩, h2⟩, h3⟩ := h
      exact t_cmp S.g.room (sndE a S ok.1 h2) (sndE b S ok.2 h3) h1
    | _ => cases (show false = true from h)
  | .chn o o' a b c, cd, top, X, Wx, e, S, ok, h => by
    cases e with
    | Compare l ops cs pos =>
      rcases ops with _ | ⟨p, _ | ⟨p', _ | ⟨p'', ops⟩⟩⟩ <;> rcases cs with _ | ⟨r, _ | ⟨r', _ | ⟨r'', cs⟩⟩⟩ <;> first | (cases (show false = true from h); done) | skip
      simp only [chkT, Bool.and_eq_true, decide_eq_true_eq, Bool.not_eq_true'] at h
      obtain ⟨⟨⟨⟨⟨rfl, rfl⟩, h1⟩, h2⟩, h3⟩, h4⟩ := h
      exact t_chn S.g.room (sndE a S ok.1 h2) (sndE b S ok.2.1 h3) (sndE c S ok.2.2 h4) h1
    | _ => cases (show false = true from h)
  | .tV a, cd, top, X, Wx, e, S, ok, h => by
    simp only [chkT, Bool.and_eq_true] at h
    exact t_val (sndE a S ok h.2) (plainT_of h.1)
  | .tNot a, cd, top, X, Wx, e, S, ok, h => by
    cases e with
    | UnaryOp op x pos =>
      cases op <;> simp only [chkT] at h <;> first | (cases h; done) | exact t_not (sndT a S ok h)
    | _ => cases (show false = true from h)
  | .tOne a, cd, top, X, Wx, e, S, ok, h => by
    cases e with
    | BoolOp op es pos =>
      rcases es with _ | ⟨x, _ | ⟨y, es⟩⟩ <;> first | (cases (show false = true from h); done) | skip
      simp only [chkT] at h
      cases op
      · exact (t_and1 (sndT a S ok h)).pt
      · exact (t_or1 (sndT a S ok h)).pt
    | _ => cases (show false = true from h)
  | .tAnd a r, cd, top, X, Wx, e, S, ok, h => by
    cases e with
    | BoolOp op es pos =>
      cases op <;> rcases es with _ | ⟨x, _ | ⟨y, es⟩⟩ <;> first | (cases (show false = true from h); done) | skip
      simp only [chkT, Bool.and_eq_true] at h
      exact (t_and (sndT a S ok.1 h.1) (sndW r S ok.2 h.2)).pt
    | _ => cases (show false = true from h)
  | .tOr a r, cd, top, X, Wx, e, S, ok, h => by
    cases e with
    | BoolOp op es pos =>
      cases op <;> rcases es with _ | ⟨x, _ | ⟨y, es⟩⟩ <;> first | (cases (show false = true from h); done) | skip
      simp only [chkT, Bool.and_eq_true] at h
      exact (t_or (sndT a S ok.1 h.1) (sndW r S ok.2 h.2)).pt
    | _ => cases (show false = true from h)
  | .tnd f ev as, cd, top, X, Wx, e, S, ok, h => by
    simp only [chkT, Bool.and_eq_true] at h
    replace h := h.2
    split at h
    · rename_i es he
      exact ok.1 X top Wx e es as S he (sndL as S ok.2 h)
    · cases h
  | .nop, cd, top, X, Wx, e, S, ok, h => nomatch (show false = true from h)
  | .var _, cd, top, X, Wx, e, S, ok, h => nomatch (show false = true from h)
  | .con _, cd, top, X, Wx, e, S, ok, h => nomatch (show false = true from h)
  | .glb _ _, cd, top, X, Wx, e, S, ok, h => nomatch (show false = true from h)
  | .bty _, cd, top, X, Wx, e, S, ok, h => nomatch (show false = true from h)
  | .bin _ _ _, cd, top, X, Wx, e, S, ok, h => nomatch (show false = true from h)
  | .neg _, cd, top, X, Wx, e, S, ok, h => nomatch (show false = true from h)
  | .one _, cd, top, X, Wx, e, S, ok, h => nomatch (show false = true from h)
  | .andV _ _, cd, top, X, Wx, e, S, ok, h => nomatch (show false = true from h)
  | .orV _ _, cd, top, X, Wx, e, S, ok, h => nomatch (show false = true from h)
  | .notV _, cd, top, X, Wx, e, S, ok, h => nomatch (show false = true from h)
  | .ife _ _ _, cd, top, X, Wx, e, S, ok, h => nomatch (show false = true from h)
  | .ix _ _, cd, top, X, Wx, e, S, ok, h => nomatch (show false = true from h)
  | .sl _ _ _, cd, top, X, Wx, e, S, ok, h => nomatch (show false = true from h)
  | .tupC _, cd, top, X, Wx, e, S, ok, h => nomatch (show false = true from h)
  | .lstC _, cd, top, X, Wx, e, S, ok, h => nomatch (show false = true from h)
  | .lstM _, cd, top, X, Wx, e, S, ok, h => nomatch (show false = true from h)
  | .nil, cd, top, X, Wx, e, S, ok, h => nomatch (show false = true from h)
  | .cons _ _, cd, top, X, Wx, e, S, ok, h => nomatch (show false = true from h)
  | .cal _ _ _, cd, top, X, Wx, e, S, ok, h => nomatch (show false = true from h)
  | .bme _ _ _ _ _ _, cd, top, X, Wx, e, S, ok, h => nomatch (show false = true from h)
  | .cpr _ _ _ _ _, cd, top, X, Wx, e, S, ok, h => nomatch (show false = true from h)
  | .frz _, cd, top, X, Wx, e, S, ok, h => nomatch (show false = true from h)
  | .nod _ _ _, cd, top, X, Wx, e, S, ok, h => nomatch (show false = true from h)
  | .ind _ _ _, cd, top, X, Wx, e, S, ok, h => nomatch (show false = true from h)
  | .itV _, cd, top, X, Wx, e, S, ok, h => nomatch (show false = true from h)
  | .itR1 _, cd, top, X, Wx, e, S, ok, h => nomatch (show false = true from h)
  | .itR2 _ _, cd, top, X, Wx, e, S, ok, h => nomatch (show false = true from h)
  | .gN _, cd, top, X, Wx, e, S, ok, h => nomatch (show false = true from h)
  | .gT _ _, cd, top, X, Wx, e, S, ok, h => nomatch (show false = true from h)
  | .gSub _ _, cd, top, X, Wx, e, S, ok, h => nomatch (show false = true from h)
  | .asg _ _, cd, top, X, Wx, e, S, ok, h => nomatch (show false = true from h)
  | .asc _ _, cd, top, X, Wx, e, S, ok, h => nomatch (show false = true from h)
  | .exp _, cd, top, X, Wx, e, S, ok, h => nomatch (show false = true from h)
  | .ret _, cd, top, X, Wx, e, S, ok, h => nomatch (show false = true from h)
  | .ret0, cd, top, X, Wx, e, S, ok, h => nomatch (show false = true from h)
  | .ifS _ _ _, cd, top, X, Wx, e, S, ok, h => nomatch (show false = true from h)
  | .whl _ _, cd, top, X, Wx, e, S, ok, h => nomatch (show false = true from h)
  | .fr _ _ _, cd, top, X, Wx, e, S, ok, h => nomatch (show false = true from h)
  | .brk, cd, top, X, Wx, e, S, ok, h => nomatch (show false = true from h)
  | .cnt, cd, top, X, Wx, e, S, ok, h => nomatch (show false = true from h)
  | .pas, cd, top, X, Wx, e, S, ok, h => nomatch (show false = true from h)
  | .sno _ _ _, cd, top, X, Wx, e, S, ok, h => nomatch (show false = true from h)
  | .nev, cd, top, X, Wx, e, S, ok, h => nomatch (show false = true from h)
  | .seq _ _, cd, top, X, Wx, e, S, ok, h => nomatch (show false = true from h)
theorem sndW : ∀ (c : IR) {cd : Prop} {top : Bool} {X : Cx} {Wx : WX} {op : BoolOp} {es : List Expr} {pos : Pos}, Sd B T k X top cd Wx → okE B T cls k cd c → chkT X.N c X.env.scope top (.BoolOp op es pos) = true → PW X (.BoolOp op es pos) (DT (wd X T cls) Wx c)
  | .tOne a, cd, top, X, Wx, op, es, pos, S, ok, h => by
    rcases es with _ | ⟨x, _ | ⟨y, es⟩⟩ <;> first | (cases (show false = true from h); done) | skip
    simp only [chkT] at h
    cases op
    · exact t_and1 (sndT a S ok h)
    · exact t_or1 (sndT a S ok h)
  | .tAnd a r, cd, top, X, Wx, op, es, pos, S, ok, h => by
    cases op <;> rcases es with _ | ⟨x, _ | ⟨y, es⟩⟩ <;> first | (cases (show false = true from h); done) | skip
    simp only [chkT, Bool.and_eq_true] at h
    exact t_and (sndT a S ok.1 h.1) (sndW r S ok.2 h.2)
  | .tOr a r, cd, top, X, Wx, op, es, pos, S, ok, h => by
    cases op <;> rcases es with _ | ⟨x, _ | ⟨y, es⟩⟩ <;> first | (cases (show false = true from h); done) | skip
    simp only [chkT, Bool.and_eq_true] at h
    exact t_or (sndT a S ok.1 h.1) (sndW r S ok.2 h.2)
  | .tV a, cd, top, X, Wx, op, es, pos, S, ok, h => by
    simp [chkT, isPlainT] at h
  | .tnd f ev as, cd, top, X, Wx, op, es, pos, S, ok, h => by
    simp [chkT, isBoolE] at h
  | .nop, cd, top, X, Wx, op, es, pos, S, ok, h => nomatch (show false = true from h)
  | .var _, cd, top, X, Wx, op, es, pos, S, ok, h => nomatch (show false = true from h)
  | .con _, cd, top, X, Wx, op, es, pos, S, ok, h => nomatch (show false = true from h)
  | .glb _ _, cd, top, X, Wx, op, es, pos, S, ok, h => nomatch (show false = true from h)
  | .bty _, cd, top, X, Wx, op, es, pos, S, ok, h => nomatch (show false = true from h)
  | .bin _ _ _, cd, top, X, Wx, op, es, pos, S, ok, h => nomatch (show false = true from h)
  | .neg _, cd, top, X, Wx, op, es, pos, S, ok, h => nomatch (show false = true from h)
  | .cmp _ _ _, cd, top, X, Wx, op, es, pos, S, ok, h => nomatch (show false = true from h)
  | .chn _ _ _ _ _, cd, top, X, Wx, op, es, pos, S, ok, h => nomatch (show false = true from h)
  | .one _, cd, top, X, Wx, op, es, pos, S, ok, h => nomatch (show false = true from h)
  | .andV _ _, cd, top, X, Wx, op, es, pos, S, ok, h => nomatch (show false = true from h)
  | .orV _ _, cd, top, X, Wx, op, es, pos, S, ok, h => nomatch (show false = true from h)
  | .notV _, cd, top, X, Wx, op, es, pos, S, ok, h => nomatch (show false = true from h)
  | .ife _ _ _, cd, top, X, Wx, op, es, pos, S, ok, h => nomatch (show false = true from h)
  | .ix _ _, cd, top, X, Wx, op, es, pos, S, ok, h => nomatch (show false = true from h)
  | .sl _ _ _, cd, top, X, Wx, op, es, pos, S, ok, h => nomatch (show false = true from h)
  | .tupC _, cd, top, X, Wx, op, es, pos, S, ok, h => nomatch (show false = true from h)
  | .lstC _, cd, top, X, Wx, op, es, pos, S, ok, h => nomatch (show false = true from h)
  | .lstM _, cd, top, X, Wx, op, es, pos, S, ok, h => nomatch (show false = true from h)
  | .nil, cd, top, X, Wx, op, es, pos, S, ok, h => nomatch (show false = true from h)
  | .cons _ _, cd, top, X, Wx, op, es, pos, S, ok, h => nomatch (show false = true from h)
  | .cal _ _ _, cd, top, X, Wx, op, es, pos, S, ok, h => nomatch (show false = true from h)
  | .bme _ _ _ _ _ _, cd, top, X, Wx, op, es, pos, S, ok, h => nomatch (show false = true from h)
  | .cpr _ _ _ _ _, cd, top, X, Wx, op, es, pos, S, ok, h => nomatch (show false = true from h)
  | .frz _, cd, top, X, Wx, op, es, pos, S, ok, h => nomatch (show false = true from h)
  | .nod _ _ _, cd, top, X, Wx, op, es, pos, S, ok, h => nomatch (show false = true from h)
  | .tNot _, cd, top, X, Wx, op, es, pos, S, ok, h => nomatch (show false = true from h)
  | .ind _ _ _, cd, top, X, Wx, op, es, pos, S, ok, h => nomatch (show false = true from h)
  | .itV _, cd, top, X, Wx, op, es, pos, S, ok, h => nomatch (show false = true from h)
  | .itR1 _, cd, top, X, Wx, op, es, pos, S, ok, h => nomatch (show false = true from h)
  | .itR2 _ _, cd, top, X, Wx, op, es, pos, S, ok, h => nomatch (show false = true from h)
  | .gN _, cd, top, X, Wx, op, es, pos, S, ok, h => nomatch (show false = true from h)
  | .gT _ _, cd, top, X, Wx, op, es, pos, S, ok, h => nomatch (show false = true from h)
  | .gSub _ _, cd, top, X, Wx, op, es, pos, S, ok, h => nomatch (show false = true from h)
  | .asg _ _, cd, top, X, Wx, op, es, pos, S, ok, h => nomatch (show false = true from h)
  | .asc _ _, cd, top, X, Wx, op, es, pos, S, ok, h => nomatch (show false = true from h)
  | .exp _, cd, top, X, Wx, op, es, pos, S, ok, h => nomatch (show false = true from h)
  | .ret _, cd, top, X, Wx, op, es, pos, S, ok, h => nomatch (show false = true from h)
  | .ret0, cd, top, X, Wx, op, es, pos, S, ok, h => nomatch (show false = true from h)
  | .ifS _ _ _, cd, top, X, Wx, op, es, pos, S, ok, h => nomatch (show false = true from h)
  | .whl _ _, cd, top, X, Wx, op, es, pos, S, ok, h => nomatch (show false = true from h)
  | .fr _ _ _, cd, top, X, Wx, op, es, pos, S, ok, h => nomatch (show false = true from h)
  | .brk, cd, top, X, Wx, op, es, pos, S, ok, h => nomatch (show false = true from h)
  | .cnt, cd, top, X, Wx, op, es, pos, S, ok, h => nomatch (show false = true from h)
  | .pas, cd, top, X, Wx, op, es, pos, S, ok, h => nomatch (show false = true from h)
  | .sno _ _ _, cd, top, X, Wx, op, es, pos, S, ok, h => nomatch (show false = true from h)
  | .nev, cd, top, X, Wx, op, es, pos, S, ok, h => nomatch (show false = true from h)
  | .seq _ _, cd, top, X, Wx, op, es, pos, S, ok, h => nomatch (show false = true from h)
theorem sndI : ∀ (c : IR) {cd : Prop} {top : Bool} {X : Cx} {Wx : WX} {tg e : Expr}, Sd B T k X top cd Wx → okE B T cls k cd c → chkI X.N c X.env.scope top e = true → PI X tg e (DI (wd X T cls) Wx c)
  | .itV a, cd, top, X, Wx, tg, e, S, ok, h => by
    simp only [chkI] at h
    exact i_val (sndE a S ok h)
  | .itR1 a, cd, top, X, Wx, tg, e, S, ok, h => by
    cases e with
    | Call f es kws pos =>
      cases f with
      | Name y p =>
        rcases es with _ | ⟨e1, _ | ⟨e2, es⟩⟩ <;> rcases kws with _ | ⟨_, _⟩ <;> first | (cases (show false = true from h); done) | skip
        simp only [chkI, Bool.and_eq_true, decide_eq_true_eq, Bool.not_eq_true'] at h
        obtain ⟨⟨⟨rfl, h2⟩, h3⟩, h4⟩ := h
        have hB := S.bs
        exact i_rng1 (gl_of h2) (show (Cx.bs X).mg "range" = none from hB ▸ ok.1) (sndE a S ok.2 h4) (star_of h3)
      | _ => cases (show false = true from h)
    | _ => cases (show false = true from h)
  | .itR2 a b, cd, top, X, Wx, tg, e, S, ok, h => by
    cases e with
    | Call f es kws pos =>
      cases f with
      | Name y p =>
        rcases es with _ | ⟨e1, _ | ⟨e2, _ | ⟨e3, es⟩⟩⟩ <;> rcases kws with _ | ⟨_, _⟩ <;> first | (cases (show false = true from h); done) | skip
        simp only [chkI, Bool.and_eq_true, decide_eq_true_eq, Bool.not_eq_true'] at h
        obtain ⟨⟨⟨⟨⟨rfl, h2⟩, h3⟩, h3'⟩, h4⟩, h5⟩ := h
        have hB := S.bs
        exact i_rng2 (gl_of h2) (show (Cx.bs X).mg "range" = none from hB ▸ ok.1) (sndE a S ok.2.1 h4) (sndE b S ok.2.2 h5) (by rw [star_of h3, star_of h3']; rfl) (star_of h3')
      | _ => cases (show false = true from h)
    | _ => cases (show false = true from h)
  | .ind f ev as, cd, top, X, Wx, tg, e, S, ok, h => by
    simp only [chkI] at h
    split at h
    · rename_i es he
      exact ok.1 X top Wx tg e es as S he (sndL as S ok.2 h)
    · cases h
  | .nop, cd, top, X, Wx, tg, e, S, ok, h => nomatch (show false = true from h)
  | .var _, cd, top, X, Wx, tg, e, S, ok, h => nomatch (show false = true from h)
  | .con _, cd, top, X, Wx, tg, e, S, ok, h => nomatch (show false = true from h)
  | .glb _ _, cd, top, X, Wx, tg, e, S, ok, h => nomatch (show false = true from h)
  | .bty _, cd, top, X, Wx, tg, e, S, ok, h => nomatch (show false = true from h)
  | .bin _ _ _, cd, top, X, Wx, tg, e, S, ok, h => nomatch (show false = true from h)
  | .neg _, cd, top, X, Wx, tg, e, S, ok, h => nomatch (show false = true from h)
  | .cmp _ _ _, cd, top, X, Wx, tg, e, S, ok, h => nomatch (show false = true from h)
  | .chn _ _ _ _ _, cd, top, X, Wx, tg, e, S, ok, h => nomatch (show false = true from h)
  | .one _, cd, top, X, Wx, tg, e, S, ok, h => nomatch (show false = true from h)
  | .andV _ _, cd, top, X, Wx, tg, e, S, ok, h => nomatch (show false = true from h)
  | .orV _ _, cd, top, X, Wx, tg, e, S, ok, h => nomatch (show false = true from h)
  | .notV _, cd, top, X, Wx, tg, e, S, ok, h => nomatch (show false = true from h)
  | .ife _ _ _, cd, top, X, Wx, tg, e, S, ok, h => nomatch (show false = true from h)
  | .ix _ _, cd, top, X, Wx, tg, e, S, ok, h => nomatch (show false = true from h)
  | .sl _ _ _, cd, top, X, Wx, tg, e, S, ok, h => nomatch (show false = true from h)
  | .tupC _, cd, top, X, Wx, tg, e, S, ok, h => nomatch (show false = true from h)
  | .lstC _, cd, top, X, Wx, tg, e, S, ok, h => nomatch (show false = true from h)
  | .lstM _, cd, top, X, Wx, tg, e, S, ok, h => nomatch (show false = true from h)
  | .nil, cd, top, X, Wx, tg, e, S, ok, h => nomatch (show false = true from h)
  | .cons _ _, cd, top, X, Wx, tg, e, S, ok, h => nomatch (show false = true from h)
  | .cal _ _ _, cd, top, X, Wx, tg, e, S, ok, h => nomatch (show false = true from h)
  | .bme _ _ _ _ _ _, cd, top, X, Wx, tg, e, S, ok, h => nomatch (show false = true from h)
  | .cpr _ _ _ _ _, cd, top, X, Wx, tg, e, S, ok, h => nomatch (show false = true from h)
  | .frz _, cd, top, X, Wx, tg, e, S, ok, h => nomatch (show false = true from h)
  | .nod _ _ _, cd, top, X, Wx, tg, e, S, ok, h => nomatch (show false = true from h)
  | .tV _, cd, top, X, Wx, tg, e, S, ok, h => nomatch (show false = true from h)
  | .tNot _, cd, top, X, Wx, tg, e, S, ok, h => nomatch (show false = true from h)
  | .tOne _, cd, top, X, Wx, tg, e, S, ok, h => nomatch (show false = true from h)
  | .tAnd _ _, cd, top, X, Wx, tg, e, S, ok, h => nomatch (show false = true from h)
  | .tOr _ _, cd, top, X, Wx, tg, e, S, ok, h => nomatch (show false = true from h)
  | .tnd _ _ _, cd, top, X, Wx, tg, e, S, ok, h => nomatch (show false = true from h)
  | .gN _, cd, top, X, Wx, tg, e, S, ok, h => nomatch (show false = true from h)
  | .gT _ _, cd, top, X, Wx, tg, e, S, ok, h => nomatch (show false = true from h)
  | .gSub _ _, cd, top, X, Wx, tg, e, S, ok, h => nomatch (show false = true from h)
  | .asg _ _, cd, top, X, Wx, tg, e, S, ok, h => nomatch (show false = true from h)
  | .asc _ _, cd, top, X, Wx, tg, e, S, ok, h => nomatch (show false = true from h)
  | .exp _, cd, top, X, Wx, tg, e, S, ok, h => nomatch (show false = true from h)
  | .ret _, cd, top, X, Wx, tg, e, S, ok, h => nomatch (show false = true from h)
  | .ret0, cd, top, X, Wx, tg, e, S, ok, h => nomatch (show false = true from h)
  | .ifS _ _ _, cd, top, X, Wx, tg, e, S, ok, h => nomatch (show false = true from h)
  | .whl _ _, cd, top, X, Wx, tg, e, S, ok, h => nomatch (show false = true from h)
  | .fr _ _ _, cd, top, X, Wx, tg, e, S, ok, h => nomatch (show false = true from h)
  | .brk, cd, top, X, Wx, tg, e, S, ok, h => nomatch (show false = true from h)
  | .cnt, cd, top, X, Wx, tg, e, S, ok, h => nomatch (show false = true from h)
  | .pas, cd, top, X, Wx, tg, e, S, ok, h => nomatch (show false = true from h)
  | .sno _ _ _, cd, top, X, Wx, tg, e, S, ok, h => nomatch (show false = true from h)
  | .nev, cd, top, X, Wx, tg, e, S, ok, h => nomatch (show false = true from h)
  | .seq _ _, cd, top, X, Wx, tg, e, S, ok, h => nomatch (show false = true from h)
theorem sndG : ∀ (c : IR) {cd : Prop} {top : Bool} {X : Cx} {Wx : WX} {e : Expr}, Sd B T k X top cd Wx → okE B T cls k cd c → chkG X.N c X.env.scope top e = true → PG X e (DG (wd X T cls) c)
  | .gN i, cd, top, X, Wx, e, S, ok, h => by
    cases e with
    | Name x pos =>
      simp only [chkG, Bool.and_eq_true, decide_eq_true_eq] at h
      obtain ⟨h1, h2⟩ := h
      unfold locB at h2
      split at h2
      · rename_i e1
        exact g_name S.g.nd h1 (.inl e1) (.inr e1)
      · rename_i e1
        exact g_name S.g.nd h1 (.inr e1) (.inl (S.g.fn h2 x))
      · cases h2
    | _ => cases (show false = true from h)
  | .gT n gs, cd, top, X, Wx, e, S, ok, h => by
    cases e with
    | Tuple es j pos =>
      simp only [chkG, Bool.and_eq_true, decide_eq_true_eq] at h
      have hs := starsG_of h.2
      exact g_tup S.g.calm (sndGs gs S ok h.2) (by rw [assignEach_len hs]; exact h.1) (assignEach_idx hs)
    | _ => cases (show false = true from h)
  | .gSub a b, cd, top, X, Wx, e, S, ok, h => by
    cases e with
    | Subscript x y pos =>
      simp only [chkG, Bool.and_eq_true, Bool.not_eq_true'] at h
      exact g_sub (Wx := Wx) (sndE a S ok.1 h.1.2) (sndE b S ok.2 h.2) (assignSub h.1.1)
    | _ => cases (show false = true from h)
  | .nop, cd, top, X, Wx, e, S, ok, h => nomatch (show false = true from h)
  | .var _, cd, top, X, Wx, e, S, ok, h => nomatch (show false = true from h)
  | .con _, cd, top, X, Wx, e, S, ok, h => nomatch (show false = true from h)
  | .glb _ _, cd, top, X, Wx, e, S, ok, h => nomatch (show false = true from h)
  | .bty _, cd, top, X, Wx, e, S, ok, h => nomatch (show false = true from h)
  | .bin _ _ _, cd, top, X, Wx, e, S, ok, h => nomatch (show false = true from h)
  | .neg _, cd, top, X, Wx, e, S, ok, h => nomatch (show false = true from h)
  | .cmp _ _ _, cd, top, X, Wx, e, S, ok, h => nomatch (show false = true from h)
  | .chn _ _ _ _ _, cd, top, X, Wx, e, S, ok, h => nomatch (show false = true from h)
  | .one _, cd, top, X, Wx, e, S, ok, h => nomatch (show false = true from h)
  | .andV _ _, cd, top, X, Wx, e, S, ok, h => nomatch (show false = true from h)
  | .orV _ _, cd, top, X, Wx, e, S, ok, h => nomatch (show false = true from h)
  | .notV _, cd, top, X, Wx, e, S, ok, h => nomatch (show false = true from h)
  | .ife _ _ _, cd, top, X, Wx, e, S, ok, h => nomatch (show false = true from h)
  | .ix _ _, cd, top, X, Wx, e, S, ok, h => nomatch (show false = true from h)
  | .sl _ _ _, cd, top, X, Wx, e, S, ok, h => nomatch (show false = true from h)
  | .tupC _, cd, top, X, Wx, e, S, ok, h => nomatch (show false = true from h)
  | .lstC _, cd, top, X, Wx, e, S, ok, h => nomatch (show false = true from h)
  | .lstM _, cd, top, X, Wx, e, S, ok, h => nomatch (show false = true from h)
  | .nil, cd, top, X, Wx, e, S, ok, h => nomatch (show false = true from h)
  | .cons _ _, cd, top, X, Wx, e, S, ok, h => nomatch (show false = true from h)
  | .cal _ _ _, cd, top, X, Wx, e, S, ok, h => nomatch (show false = true from h)
  | .bme _ _ _ _ _ _, cd, top, X, Wx, e, S, ok, h => nomatch (show false = true from h)
  | .cpr _ _ _ _ _, cd, top, X, Wx, e, S, ok, h => nomatch (show false = true from h)
  | .frz _, cd, top, X, Wx, e, S, ok, h => nomatch (show false = true from h)
  | .nod _ _ _, cd, top, X, Wx, e, S, ok, h => nomatch (show false = true from h)
  | .tV _, cd, top, X, Wx, e, S, ok, h => nomatch (show false = true from h)
  | .tNot _, cd, top, X, Wx, e, S, ok, h => nomatch (show false = true from h)
  | .tOne _, cd, top, X, Wx, e, S, ok, h => nomatch (show false = true from h)
  | .tAnd _ _, cd, top, X, Wx, e, S, ok, h => nomatch (show false = true from h)
  | .tOr _ _, cd, top, X, Wx, e, S, ok, h => nomatch (show false = true from h)
  | .tnd _ _ _, cd, top, X, Wx, e, S, ok, h => nomatch (show false = true from h)
  | .ind _ _ _, cd, top, X, Wx, e, S, ok, h => nomatch (show false = true from h)
  | .itV _, cd, top, X, Wx, e, S, ok, h => nomatch (show false = true from h)
  | .itR1 _, cd, top, X, Wx, e, S, ok, h => nomatch (show false = true from h)
  | .itR2 _ _, cd, top, X, Wx, e, S, ok, h => nomatch (show false = true from h)
  | .asg _ _, cd, top, X, Wx, e, S, ok, h => nomatch (show false = true from h)
  | .asc _ _, cd, top, X, Wx, e, S, ok, h => nomatch (show false = true from h)
  | .exp _, cd, top, X, Wx, e, S, ok, h => nomatch (show false = true from h)
  | .ret _, cd, top, X, Wx, e, S, ok, h => nomatch (show false = true from h)
  | .ret0, cd, top, X, Wx, e, S, ok, h => nomatch (show false = true from h)
  | .ifS _ _ _, cd, top, X, Wx, e, S, ok, h => nomatch (show false = true from h)
  | .whl _ _, cd, top, X, Wx, e, S, ok, h => nomatch (show false = true from h)
  | .fr _ _ _, cd, top, X, Wx, e, S, ok, h => nomatch (show false = true from h)
  | .brk, cd, top, X, Wx, e, S, ok, h => nomatch (show false = true from h)
  | .cnt, cd, top, X, Wx, e, S, ok, h => nomatch (show false = true from h)
  | .pas, cd, top, X, Wx, e, S, ok, h => nomatch (show false = true from h)
  | .sno _ _ _, cd, top, X, Wx, e, S, ok, h => nomatch (show false = true from h)
  | .nev, cd, top, X, Wx, e, S, ok, h => nomatch (show false = true from h)
  | .seq _ _, cd, top, X, Wx, e, S, ok, h => nomatch (show false = true from h)
theorem sndGs : ∀ (c : IR) {cd : Prop} {top : Bool} {X : Cx} {Wx : WX} {es : List Expr}, Sd B T k X top cd Wx → okE B T cls k cd c → chkGs X.N c X.env.scope top es = true → PGs X es (DGs (wd X T cls) c)
  | .nil, cd, top, X, Wx, es, S, ok, h => by
    cases es with
    | nil => exact gs_nil
    | cons _ _ => cases (show false = true from h)
  | .cons a r, cd, top, X, Wx, es, S, ok, h => by
    cases es with
    | nil => cases (show false = true from h)
    | cons e es =>
      simp only [chkGs, Bool.and_eq_true, Bool.not_eq_true'] at h
      exact gs_cons (sndG a S ok.1 h.1.2) (sndGs r S ok.2 h.2) (by rw [assignEach_of h.1.1]; rfl)
  | .nop, cd, top, X, Wx, es, S, ok, h => nomatch (show false = true from h)
  | .var _, cd, top, X, Wx, es, S, ok, h => nomatch (show false = true from h)
  | .con _, cd, top, X, Wx, es, S, ok, h => nomatch (show false = true from h)
  | .glb _ _, cd, top, X, Wx, es, S, ok, h => nomatch (show false = true from h)
  | .bty _, cd, top, X, Wx, es, S, ok, h => nomatch (show false = true from h)
  | .bin _ _ _, cd, top, X, Wx, es, S, ok, h => nomatch (show false = true from h)
  | .neg _, cd, top, X, Wx, es, S, ok, h => nomatch (show false = true from h)
  | .cmp _ _ _, cd, top, X, Wx, es, S, ok, h => nomatch (show false = true from h)
  | .chn _ _ _ _ _, cd, top, X, Wx, es, S, ok, h => nomatch (show false = true from h)
  | .one _, cd, top, X, Wx, es, S, ok, h => nomatch (show false = true from h)
  | .andV _ _, cd, top, X, Wx, es, S, ok, h => nomatch (show false = true from h)
  | .orV _ _, cd, top, X, Wx, es, S, ok, h => nomatch (show false = true from h)
  | .notV _, cd, top, X, Wx, es, S, ok, h => nomatch (show false = true from h)
  | .ife _ _ _, cd, top, X, Wx, es, S, ok, h => nomatch (show false = true from h)
  | .ix _ _, cd, top, X, Wx, es, S, ok, h => nomatch (show false = true from h)
  | .sl _ _ _, cd, top, X, Wx, es, S, ok, h => nomatch (show false = true from h)
  | .tupC _, cd, top, X, Wx, es, S, ok, h => nomatch (show false = true from h)
  | .lstC _, cd, top, X, Wx, es, S, ok, h => nomatch (show false = true from h)
  | .lstM _, cd, top, X, Wx, es, S, ok, h => nomatch (show false = true from h)
  | .cal _ _ _, cd, top, X, Wx, es, S, ok, h => nomatch (show false = true from h)
  | .bme _ _ _ _ _ _, cd, top, X, Wx, es, S, ok, h => nomatch (show false = true from h)
  | .cpr _ _ _ _ _, cd, top, X, Wx, es, S, ok, h => nomatch (show false = true from h)
  | .frz _, cd, top, X, Wx, es, S, ok, h => nomatch (show false = true from h)
  | .nod _ _ _, cd, top, X, Wx, es, S, ok, h => nomatch (show false = true from h)
  | .tV _, cd, top, X, Wx, es, S, ok, h => nomatch (show false = true from h)
  | .tNot _, cd, top, X, Wx, es, S, ok, h => nomatch (show false = true from h)
  | .tOne _, cd, top, X, Wx, es, S, ok, h => nomatch (show false = true from h)
  | .tAnd _ _, cd, top, X, Wx, es, S, ok, h => nomatch (show false = true from h)
  | .tOr _ _, cd, top, X, Wx, es, S, ok, h => nomatch (show false = true from h)
  | .tnd _ _ _, cd, top, X, Wx, es, S, ok, h => nomatch (show false = true from h)
  | .ind _ _ _, cd, top, X, Wx, es, S, ok, h => nomatch (show false = true from h)
  | .itV _, cd, top, X, Wx, es, S, ok, h => nomatch (show false = true from h)
  | .itR1 _, cd, top, X, Wx, es, S, ok, h => nomatch (show false = true from h)
  | .itR2 _ _, cd, top, X, Wx, es, S, ok, h => nomatch (show false = true from h)
  | .gN _, cd, top, X, Wx, es, S, ok, h => nomatch (show false = true from h)
  | .gT _ _, cd, top, X, Wx, es, S, ok, h => nomatch (show false = true from h)
  | .gSub _ _, cd, top, X, Wx, es, S, ok, h => nomatch (show false = true from h)
  | .asg _ _, cd, top, X, Wx, es, S, ok, h => nomatch (show false = true from h)
  | .asc _ _, cd, top, X, Wx, es, S, ok, h => nomatch (show false = true from h)
  | .exp _, cd, top, X, Wx, es, S, ok, h => nomatch (show false = true from h)
  | .ret _, cd, top, X, Wx, es, S, ok, h => nomatch (show false = true from h)
  | .ret0, cd, top, X, Wx, es, S, ok, h => nomatch (show false = true from h)
  | .ifS _ _ _, cd, top, X, Wx, es, S, ok, h => nomatch (show false = true from h)
  | .whl _ _, cd, top, X, Wx, es, S, ok, h => nomatch (show false = true from h)
  | .fr _ _ _, cd, top, X, Wx, es, S, ok, h => nomatch (show false = true from h)
  | .brk, cd, top, X, Wx, es, S, ok, h => nomatch (show false = true from h)
  | .cnt, cd, top, X, Wx, es, S, ok, h => nomatch (show false = true from h)
  | .pas, cd, top, X, Wx, es, S, ok, h => nomatch (show false = true from h)
  | .sno _ _ _, cd, top, X, Wx, es, S, ok, h => nomatch (show false = true from h)
  | .nev, cd, top, X, Wx, es, S, ok, h => nomatch (show false = true from h)
  | .seq _ _, cd, top, X, Wx, es, S, ok, h => nomatch (show false = true from h)
end
end
end M
end

section
set_option Elab.async false
set_option linter.all false
set_option maxRecDepth 100000
set_option maxHeartbeats 4000000
set_option autoImplicit false
/-! M: statements; a def's promise by its term. -/
namespace M
open PySem PySem.Spec PyProof.Rows L2
def okS (B : Bs) (T : List Addr) (cls : Nat → Addr) (k : Nat) (cd : Prop) : IR → Prop
  | .ifS t a b => okE B T cls k cd t ∧ okS B T cls k cd a ∧ okS B T cls k cd b
  | .whl t b => okE B T cls k cd t ∧ okS B T cls k cd b
  | .fr g it b => okE B T cls k cd g ∧ okE B T cls k cd it ∧ okS B T cls k cd b
  | .seq a b => okS B T cls k cd a ∧ okS B T cls k cd b
  | c => okE B T cls k cd c
section
variable {B : Bs} {T : List Addr} {cls : Nat → Addr} {k : Nat}
theorem snd_asc {i : Nat} {c : IR} {cd : Prop} {X : Cx} {Wx : WX} {st : Stmt} (S : Sd B T k X true cd Wx) (ok : okS B T cls k cd (.asc i c)) (h : chkS X.N (.asc i c) X.env.scope st = true) : PS X st (DS (wd X T cls) Wx (.asc i c)) := by
  cases c with
  | cpr own g it t e =>
    cases st with
    | Assign ts v pos =>
      cases ts with
      | nil => cases (show false = true from h)
      | cons t' ts =>
        cases t' with
        | Name y py =>
          cases ts with
          | cons _ _ => cases (show false = true from h)
          | nil =>
            cases v with
            | ListComp elt gs scope vpos =>
              cases gs with
              | nil => cases (show false = true from h)
              | cons g1 gs =>
                obtain ⟨tg, iter, ifs, as⟩ := g1
                cases gs with
                | cons _ _ => cases (show false = true from h)
                | nil =>
                  simp only [chkS, Bool.and_eq_true, Bool.not_eq_true', List.all_eq_true, decide_eq_true_eq] at h
                  obtain ⟨⟨⟨⟨⟨⟨⟨⟨⟨⟨⟨rfl, h1⟩, h2⟩, h3⟩, h4⟩, h5⟩, h6⟩, h7⟩, h8⟩, h9⟩, h10⟩, h11⟩ := h
                  have hk : X.env.scope.kind = .function := S.kind rfl
                  exact s_asc S.g.calm S.g.nd h1 h2 (sw_true hk h2 h3 h4) (sndI it S ok.1 h8) (blkOk_by h5) h6 (fun s H C cl fp => sndG g (S.blk s H scope _ fp) ok.2.1 h9) (fun s H C cl fp => tests_of (fun e he => sndT t (S.blk s H scope _ fp) ok.2.2.1 he) h10) (fun s H C cl fp => sndE e (S.blk s H scope _ fp) ok.2.2.2 h11) (set_of h7)
            | _ => cases (show false = true from h)
        | _ => cases (show false = true from h)
    | _ => cases (show false = true from h)
  | _ => cases st <;> cases (show false = true from h)
mutual
theorem sndS : ∀ (c : IR) {cd : Prop} {X : Cx} {Wx : WX} {st : Stmt}, Sd B T k X true cd Wx → PassesOwn (model X.prog X.w) X.A X.env X.xe → okS B T cls k cd c → chkS X.N c X.env.scope st = true → PS X st (DS (wd X T cls) Wx c)
  | .asg g e, cd, X, Wx, st, S, po, ok, h => by
    cases st with
    | Assign ts v pos =>
      rcases ts with _ | ⟨t, _ | ⟨t', ts⟩⟩ <;> first | (cases (show false = true from h); done) | skip
      simp only [chkS, Bool.and_eq_true, Bool.not_eq_true'] at h
      obtain ⟨⟨⟨h1, h2⟩, h3⟩, h4⟩ := h
      have ns : isStar t = false := by cases t <;> first | rfl | (cases g <;> cases (show false = true from h3))
      exact s_asg (sndE e S ok.2 h4) (sndG g S ok.1 h3) (swap_of h2) (stores_of h1) (by rw [assignEach_of ns]; rfl)
    | _ => cases (show false = true from h)
  | .exp e, cd, X, Wx, st, S, po, ok, h => by
    cases st with
    | Expr v pos =>
      simp only [chkS, Bool.and_eq_true, Bool.not_eq_true'] at h
      exact s_exp (sndE e S ok h.2) (swap_of h.1)
    | _ => cases (show false = true from h)
  | .ret e, cd, X, Wx, st, S, po, ok, h => by
    cases st with
    | Return v pos =>
      cases v with
      | some v => exact s_ret (sndE e S ok h)
      | none => cases (show false = true from h)
    | _ => cases (show false = true from h)
  | .ret0, cd, X, Wx, st, S, po, ok, h => by
    cases st with
    | Return v pos =>
      cases v with
      | none => exact s_ret0
      | some v => cases (show false = true from h)
    | _ => cases (show false = true from h)
  | .ifS t a b, cd, X, Wx, st, S, po, ok, h => by
    cases st with
    | If c x y pos =>
      simp only [chkS, Bool.and_eq_true] at h
      exact s_if (sndT t S ok.1 h.1.1) (sndB a S po ok.2.1 h.1.2) (sndB b S po ok.2.2 h.2)
    | _ => cases (show false = true from h)
  | .whl t b, cd, X, Wx, st, S, po, ok, h => by
    cases st with
    | While c x y pos =>
      cases y with
      | nil =>
        simp only [chkS, Bool.and_eq_true] at h
        exact s_whl po (sndT t S ok.1 h.1) (sndB b S po ok.2 h.2)
      | cons _ _ => cases (show false = true from h)
    | _ => cases (show false = true from h)
  | .fr g it b, cd, X, Wx, st, S, po, ok, h => by
    cases st with
    | For tg iter x y pos =>
      cases y with
      | nil =>
        simp only [chkS, Bool.and_eq_true, Bool.not_eq_true'] at h
        exact s_for po S.g.calm (sndI it S ok.2.1 h.1.1.2) (sndG g S ok.1 h.1.2) (sndB b S po ok.2.2 h.2) (set_of h.1.1.1)
      | cons _ _ => cases (show false = true from h)
    | _ => cases (show false = true from h)
  | .brk, cd, X, Wx, st, S, po, ok, h => by
    cases st with
    | Break pos => exact s_brk
    | _ => cases (show false = true from h)
  | .cnt, cd, X, Wx, st, S, po, ok, h => by
    cases st with
    | Continue pos => exact s_cnt
    | _ => cases (show false = true from h)
  | .pas, cd, X, Wx, st, S, po, ok, h => by
    cases st with
    | Pass pos => exact s_pas
    | _ => cases (show false = true from h)
  | .nev, cd, X, Wx, st, S, po, ok, h => s_nev
  | .asc i c, cd, X, Wx, st, S, po, ok, h => snd_asc S ok h
  | .sno f ev as, cd, X, Wx, st, S, po, ok, h => by
    simp only [chkS] at h
    split at h
    · rename_i es he
      exact ok.1 X Wx st es as S he (sndL as S ok.2 h)
    · cases h
  | .nop, cd, X, Wx, st, S, po, ok, h => nomatch (show false = true from h)
  | .var _, cd, X, Wx, st, S, po, ok, h => nomatch (show false = true from h)
  | .con _, cd, X, Wx, st, S, po, ok, h => nomatch (show false = true from h)
  | .glb _ _, cd, X, Wx, st, S, po, ok, h => nomatch (show false = true from h)
  | .bty _, cd, X, Wx, st, S, po, ok, h => nomatch (show false = true from h)
  | .bin _ _ _, cd, X, Wx, st, S, po, ok, h => nomatch (show false = true from h)
  | .neg _, cd, X, Wx, st, S, po, ok, h => nomatch (show false = true from h)
  | .cmp _ _ _, cd, X, Wx, st, S, po, ok, h => nomatch (show false = true from h)
  | .chn _ _ _ _ _, cd, X, Wx, st, S, po, ok, h => nomatch (show false = true from h)
  | .one _, cd, X, Wx, st, S, po, ok, h => nomatch (show false = true from h)
  | .andV _ _, cd, X, Wx, st, S, po, ok, h => nomatch (show false = true from h)
  | .orV _ _, cd, X, Wx, st, S, po, ok, h => nomatch (show false = true from h)
  | .notV _, cd, X, Wx, st, S, po, ok, h => nomatch (show false = true from h)
  | .ife _ _ _, cd, X, Wx, st, S, po, ok, h => nomatch (show false = true from h)
  | .ix _ _, cd, X, Wx, st, S, po, ok, h => nomatch (show false = true from h)
  | .sl _ _ _, cd, X, Wx, st, S, po, ok, h => nomatch (show false = true from h)
  | .tupC _, cd, X, Wx, st, S, po, ok, h => nomatch (show false = true from h)
  | .lstC _, cd, X, Wx, st, S, po, ok, h => nomatch (show false = true from h)
  | .lstM _, cd, X, Wx, st, S, po, ok, h => nomatch (show false = true from h)
  | .nil, cd, X, Wx, st, S, po, ok, h => nomatch (show false = true from h)
  | .cons _ _, cd, X, Wx, st, S, po, ok, h => nomatch (show false = true from h)
  | .cal _ _ _, cd, X, Wx, st, S, po, ok, h => nomatch (show false = true from h)
  | .bme _ _ _ _ _ _, cd, X, Wx, st, S, po, ok, h => nomatch (show false = true from h)
  | .cpr _ _ _ _ _, cd, X, Wx, st, S, po, ok, h => nomatch (show false = true from h)
  | .frz _, cd, X, Wx, st, S, po, ok, h => nomatch (show false = true from h)
  | .nod _ _ _, cd, X, Wx, st, S, po, ok, h => nomatch (show false = true from h)
  | .tV _, cd, X, Wx, st, S, po, ok, h => nomatch (show false = true from h)
  | .tNot _, cd, X, Wx, st, S, po, ok, h => nomatch (show false = true from h)
  | .tOne _, cd, X, Wx, st, S, po, ok, h => nomatch (show false = true from h)
  | .tAnd _ _, cd, X, Wx, st, S, po, ok, h => nomatch (show false = true from h)
  | .tOr _ _, cd, X, Wx, st, S, po, ok, h => nomatch (show false = true from h)
  | .tnd _ _ _, cd, X, Wx, st, S, po, ok, h => nomatch (show false = true from h)
  | .ind _ _ _, cd, X, Wx, st, S, po, ok, h => nomatch (show false = true from h)
  | .itV _, cd, X, Wx, st, S, po, ok, h => nomatch (show false = true from h)
  | .itR1 _, cd, X, Wx, st, S, po, ok, h => nomatch (show false = true from h)
  | .itR2 _ _, cd, X, Wx, st, S, po, ok, h => nomatch (show false = true from h)
  | .gN _, cd, X, Wx, st, S, po, ok, h => nomatch (show false = true from h)
  | .gT _ _, cd, X, Wx, st, S, po, ok, h => nomatch (show false = true from h)
  | .gSub _ _, cd, X, Wx, st, S, po, ok, h => nomatch (show false = true from h)
  | .seq _ _, cd, X, Wx, st, S, po, ok, h => nomatch (show false = true from h)
theorem sndB : ∀ (c : IR) {cd : Prop} {X : Cx} {Wx : WX} {sts : List Stmt}, Sd B T k X true cd Wx → PassesOwn (model X.prog X.w) X.A X.env X.xe → okS B T cls k cd c → chkB X.N c X.env.scope sts = true → PSs X sts (DS (wd X T cls) Wx c)
  | .nil, cd, X, Wx, sts, S, po, ok, h => by
    cases sts with
    | nil => exact s_nil
    | cons _ _ => cases (show false = true from h)
  | .seq s r, cd, X, Wx, sts, S, po, ok, h => by
    cases sts with
    | nil => cases (show false = true from h)
    | cons st rest =>
      simp only [chkB, Bool.and_eq_true] at h
      exact s_seq (sndS s S po ok.1 h.1) (sndB r S po ok.2 h.2)
  | .nop, cd, X, Wx, sts, S, po, ok, h => nomatch (show false = true from h)
  | .var _, cd, X, Wx, sts, S, po, ok, h => nomatch (show false = true from h)
  | .con _, cd, X, Wx, sts, S, po, ok, h => nomatch (show false = true from h)
  | .glb _ _, cd, X, Wx, sts, S, po, ok, h => nomatch (show false = true from h)
  | .bty _, cd, X, Wx, sts, S, po, ok, h => nomatch (show false = true from h)
  | .bin _ _ _, cd, X, Wx, sts, S, po, ok, h => nomatch (show false = true from h)
  | .neg _, cd, X, Wx, sts, S, po, ok, h => nomatch (show false = true from h)
  | .cmp _ _ _, cd, X, Wx, sts, S, po, ok, h => nomatch (show false = true from h)
  | .chn _ _ _ _ _, cd, X, Wx, sts, S, po, ok, h => nomatch (show false = true from h)
  | .one _, cd, X, Wx, sts, S, po, ok, h => nomatch (show false = true from h)
  | .andV _ _, cd, X, Wx, sts, S, po, ok, h => nomatch (show false = true from h)
  | .orV _ _, cd, X, Wx, sts, S, po, ok, h => nomatch (show false = true from h)
  | .notV _, cd, X, Wx, sts, S, po, ok, h => nomatch (show false = true from h)
  | .ife _ _ _, cd, X, Wx, sts, S, po, ok, h => nomatch (show false = true from h)
  | .ix _ _, cd, X, Wx, sts, S, po, ok, h => nomatch (show false = true from h)
  | .sl _ _ _, cd, X, Wx, sts, S, po, ok, h => nomatch (show false = true from h)
  | .tupC _, cd, X, Wx, sts, S, po, ok, h => nomatch (show false = true from h)
  | .lstC _, cd, X, Wx, sts, S, po, ok, h => nomatch (show false = true from h)
  | .lstM _, cd, X, Wx, sts, S, po, ok, h => nomatch (show false = true from h)
  | .cons _ _, cd, X, Wx, sts, S, po, ok, h => nomatch (show false = true from h)
  | .cal _ _ _, cd, X, Wx, sts, S, po, ok, h => nomatch (show false = true from h)
  | .bme _ _ _ _ _ _, cd, X, Wx, sts, S, po, ok, h => nomatch (show false = true from h)
  | .cpr _ _ _ _ _, cd, X, Wx, sts, S, po, ok, h => nomatch (show false = true from h)
  | .frz _, cd, X, Wx, sts, S, po, ok, h => nomatch (show false = true from h)
  | .nod _ _ _, cd, X, Wx, sts, S, po, ok, h => nomatch (show false = true from h)
  | .tV _, cd, X, Wx, sts, S, po, ok, h => nomatch (show false = true from h)
  | .tNot _, cd, X, Wx, sts, S, po, ok, h => nomatch (show false = true from h)
  | .tOne _, cd, X, Wx, sts, S, po, ok, h => nomatch (show false = true from h)
  | .tAnd _ _, cd, X, Wx, sts, S, po, ok, h => nomatch (show false = true from h)
  | .tOr _ _, cd, X, Wx, sts, S, po, ok, h => nomatch (show false = true from h)
  | .tnd _ _ _, cd, X, Wx, sts, S, po, ok, h => nomatch (show false = true from h)
  | .ind _ _ _, cd, X, Wx, sts, S, po, ok, h => nomatch (show false = true from h)
  | .itV _, cd, X, Wx, sts, S, po, ok, h => nomatch (show false = true from h)
  | .itR1 _, cd, X, Wx, sts, S, po, ok, h => nomatch (show false = true from h)
  | .itR2 _ _, cd, X, Wx, sts, S, po, ok, h => nomatch (show false = true from h)
  | .gN _, cd, X, Wx, sts, S, po, ok, h => nomatch (show false = true from h)
  | .gT _ _, cd, X, Wx, sts, S, po, ok, h => nomatch (show false = true from h)
  | .gSub _ _, cd, X, Wx, sts, S, po, ok, h => nomatch (show false = true from h)
  | .asg _ _, cd, X, Wx, sts, S, po, ok, h => nomatch (show false = true from h)
  | .asc _ _, cd, X, Wx, sts, S, po, ok, h => nomatch (show false = true from h)
  | .exp _, cd, X, Wx, sts, S, po, ok, h => nomatch (show false = true from h)
  | .ret _, cd, X, Wx, sts, S, po, ok, h => nomatch (show false = true from h)
  | .ret0, cd, X, Wx, sts, S, po, ok, h => nomatch (show false = true from h)
  | .ifS _ _ _, cd, X, Wx, sts, S, po, ok, h => nomatch (show false = true from h)
  | .whl _ _, cd, X, Wx, sts, S, po, ok, h => nomatch (show false = true from h)
  | .fr _ _ _, cd, X, Wx, sts, S, po, ok, h => nomatch (show false = true from h)
  | .brk, cd, X, Wx, sts, S, po, ok, h => nomatch (show false = true from h)
  | .cnt, cd, X, Wx, sts, S, po, ok, h => nomatch (show false = true from h)
  | .pas, cd, X, Wx, sts, S, po, ok, h => nomatch (show false = true from h)
  | .sno _ _ _, cd, X, Wx, sts, S, po, ok, h => nomatch (show false = true from h)
  | .nev, cd, X, Wx, sts, S, po, ok, h => nomatch (show false = true from h)
end

/-! ### a def's promise -/
mutual
/-- the cells that a datum names are below n -/
def objB (n : Nat) : D → Bool
  | .tup ds => objBs n ds
  | .lst ds => objBs n ds
  | .scr ds => objBs n ds
  | .obj k => decide (k < n)
  | _ => true
def objBs (n : Nat) : List D → Bool
  | [] => true
  | d :: ds => objB n d && objBs n ds
end
mutual
theorem Rep.down {K : PySem.W.Frag} {w w' : Vw} (hx : Ext w.G w'.G) (hr : ∀ k, k < w'.n → w'.ρ k = w.ρ k) : ∀ {d : D} {v : V}, Rep K w d v → objB w'.n d = true → Rep K w' d v
  | .non, _, h, _ => h
  | .bl _, _, h, _ => h
  | .int _, _, h, _ => h
  | .str _, _, h, _ => h
  | .ty _, _, h, _ => h
  | .tup _, _, ⟨a, xs, e, s, r⟩, p => ⟨a, xs, e, hx.sqt s, Reps.down hx hr r p⟩
  | .lst _, _, ⟨a, xs, e, s, r⟩, p => ⟨a, xs, e, hx.at s (fun _ z => by cases z), Reps.down hx hr r p⟩
  | .scr _, _, ⟨a, xs, e, s, r⟩, p => ⟨a, xs, e, hx.sql s, Reps.down hx hr r p⟩
  | .obj k, _, ⟨_, e⟩, p => by
    have p : k < w'.n := of_decide_eq_true p
    exact ⟨p, by rw [hr k p]; exact e⟩
theorem Reps.down {K : PySem.W.Frag} {w w' : Vw} (hx : Ext w.G w'.G) (hr : ∀ k, k < w'.n → w'.ρ k = w.ρ k) : ∀ {ds : List D} {xs : List V}, Reps K w ds xs → objBs w'.n ds = true → Reps K w' ds xs
  | [], _, h, _ => h
  | _ :: _, _, ⟨x, r, e, h, t⟩, p => by
    have p : (objB w'.n _ && objBs w'.n _) = true := p
    rw [Bool.and_eq_true] at p
    exact ⟨x, r, e, Rep.down hx hr h p.1, Reps.down hx hr t p.2⟩
end
def cellB (n : Nat) : Cell → Bool
  | .lst ds => objBs n ds
  | .dct kvs => objBs n (kvs.map (·.2))
  | .ins _ fs => objBs n (fs.map (·.2))
theorem RepP.down {κ : Type} {K : PySem.W.Frag} {w w' : Vw} (hx : Ext w.G w'.G) (hr : ∀ k, k < w'.n → w'.ρ k = w.ρ k) : ∀ {ds : List (κ × D)} {xs : List (κ × V)}, RepP K w ds xs → objBs w'.n (ds.map (·.2)) = true → RepP K w' ds xs
  | [], _, h, _ => h
  | (_, _) :: _, _, ⟨x, r, e, h, t⟩, p => by
    have p : (objB w'.n _ && objBs w'.n _) = true := p
    rw [Bool.and_eq_true] at p
    exact ⟨x, r, e, Rep.down hx hr h p.1, RepP.down hx hr t p.2⟩
/-- μ1 is part of μ: some of its cells, as they are, counted from fewer -/
structure Sto.Part (μ1 μ : Sto) : Prop where
  nx : μ1.next ≤ μ.next
  sub : ∀ j c, μ1.cell j = some c → μ.cell j = some c ∧ j < μ1.next ∧ cellB μ1.next c = true
theorem Rl.part {W : Wd} {S : Ss} {μ1 : Sto} (R : Rl W S) (h : μ1.Part S.μ) : Ext (hid S) (hid { S with μ := μ1 }) ∧ Rl W { S with μ := μ1 } := by
  have hx : Ext (hid S) (hid { S with μ := μ1 }) := Ext.of_ex fun a u e => by
    obtain ⟨e1, e2⟩ := hid_some.mp e
    refine hid_some.mpr ⟨e1, ?_⟩
    rintro (⟨j, d, e, h3⟩ | h3)
    · exact e2 (.inl ⟨j, d, (h.sub j d e).1, h3⟩)
    · exact e2 (.inr h3)
  refine ⟨hx, fun i j d e h1 h2 h3 => R.inj i j d e (h.sub _ _ h1).1 (h.sub _ _ h2).1 h3, fun j d e => (h.sub _ _ e).2.1, fun j d e => ?_, fun a ha => tab_ext hx (R.tab a ha), fun a u e => ⟨(R.prv a u e).1, fun j d e2 => (R.prv a u e).2 j d (h.sub _ _ e2).1⟩⟩
  obtain ⟨q1, q2, q3⟩ := h.sub j d e
  have q := R.ok j d q1
  cases d with
  | lst ds => obtain ⟨xs, e1, r⟩ := q; exact ⟨xs, e1, Reps.down (w := S.vw) (w' := Ss.vw { S with μ := μ1 }) hx (fun _ _ => rfl) r q3⟩
  | dct kvs => obtain ⟨xs, e1, r⟩ := q; exact ⟨xs, e1, RepP.down (w := S.vw) (w' := Ss.vw { S with μ := μ1 }) hx (fun _ _ => rfl) r q3⟩
  | ins c fs => obtain ⟨dx, xs, e1, r⟩ := q; exact ⟨dx, xs, e1, RepP.down (w := S.vw) (w' := Ss.vw { S with μ := μ1 }) hx (fun _ _ => rfl) r q3⟩
/-- behind a def's body: what is told of its end may leave out cells -/
def finP (n : Nat) (Q : Post) : Post := fun d μ' => ∃ μ1, n ≤ μ1.next ∧ μ1.Part μ' ∧ objB μ1.next d = true ∧ Q d μ1
def finX (n : Nat) (Q : XPost) : XPost := fun x μ' => ∃ μ1, n ≤ μ1.next ∧ μ1.Part μ' ∧ Q x μ1
def outs (n : Nat) (Q : Post) (QX : XPost) : Outs := ⟨fun _ μ' => finP n Q .non μ', finP n Q, fun _ _ => False, fun _ _ => False, fun x _ μ' => finX n QX x μ'⟩
def startE (N : List Str) (ds : List D) : Env := ds.map some ++ List.replicate (N.length - ds.length) none
theorem env_start {W : Wd} {w : Vw} {N : List Str} {ds : List D} {vs : List V} (r : Reps W.K w ds vs) : EnvR W w (startE N ds) (L2.start N vs) := by
  unfold startE L2.start
  refine ⟨by simp [r.length], fun i d e => ?_⟩
  have hl := r.length
  by_cases hi : i < ds.length
  · rw [List.getElem?_append_left (by simpa using hi), List.getElem?_map, List.getElem?_eq_getElem hi] at e
    obtain ⟨v, ev, rv⟩ := r.get (List.getElem?_eq_getElem hi)
    cases e
    exact ⟨v, by rw [List.getElem?_append_left (by simpa [hl] using hi), List.getElem?_map, ev]; rfl, rv⟩
  · rw [List.getElem?_append_right (by simpa using hi), List.getElem?_replicate] at e
    split at e <;> cases e
/-- a store as a store is -/
def Sto.wf (μ : Sto) : Prop := ∀ k c, μ.cell k = some c → k < μ.next ∧ cellB μ.next c = true
mutual
theorem Rep.objB {K : PySem.W.Frag} {w : Vw} : ∀ {d : D} {v : V}, Rep K w d v → M.objB w.n d = true
  | .non, _, _ => rfl
  | .bl _, _, _ => rfl
  | .int _, _, _ => rfl
  | .str _, _, _ => rfl
  | .ty _, _, _ => rfl
  | .tup _, _, ⟨_, _, _, _, r⟩ => Reps.objB r
  | .lst _, _, ⟨_, _, _, _, r⟩ => Reps.objB r
  | .scr _, _, ⟨_, _, _, _, r⟩ => Reps.objB r
  | .obj _, _, ⟨h, _⟩ => decide_eq_true h
theorem Reps.objB {K : PySem.W.Frag} {w : Vw} : ∀ {ds : List D} {xs : List V}, Reps K w ds xs → objBs w.n ds = true
  | [], _, _ => rfl
  | _ :: _, _, ⟨_, _, _, h, t⟩ => by
    show (M.objB w.n _ && objBs w.n _) = true
    rw [Rep.objB h, Reps.objB t]
    rfl
end
theorem RepP.objB {κ : Type} {K : PySem.W.Frag} {w : Vw} : ∀ {ds : List (κ × D)} {xs : List (κ × V)}, RepP K w ds xs → objBs w.n (ds.map (·.2)) = true
  | [], _, _ => rfl
  | (_, _) :: _, _, ⟨_, _, _, h, t⟩ => by
    show (M.objB w.n _ && objBs w.n _) = true
    rw [Rep.objB h, RepP.objB t]
    rfl
theorem Rl.wf {W : Wd} {S : Ss} (R : Rl W S) : S.μ.wf := fun k c h => by
  refine ⟨R.lt k c h, ?_⟩
  have q := R.ok k c h
  cases c with
  | lst ds => obtain ⟨xs, e1, r⟩ := q; exact r.objB
  | dct kvs => obtain ⟨xs, e1, r⟩ := q; exact r.objB
  | ins c fs => obtain ⟨dx, xs, e1, r⟩ := q; exact r.objB
theorem fn_ok {x qual : Str} {st : Stmt} {f : Addr} {fd : FuncData} {N ps : List Str} {sp : Spec} {c : IR} {cd : Prop} (F : Fun B.K x qual st f fd) (S : FnScope N ps (defScope st)) (hc : chkB N c (defScope st) (defBody st) = true) (ok : okS B T cls k cd c)
    (hcd : cd → ∀ cdv, PySem.W.codeIn B.K cdv qual = true → (∃ oc od kV doc pm an ct osl, B.K.lookup f = some ⟨oc, od, .func (PySem.W.fnOf x qual (defArgs st) (defBody st) (defScope st) .none kV doc pm an cdv ct), osl⟩) → ∃ c P, cdv = .ref c ∧ GxR.TabB B.base B.mg c P ∧ P ∈ T)
    (h : ∀ ds μ Q QX, μ.wf → objBs μ.next ds = true → sp ds μ Q QX → ds.length = ps.length ∧ wpS c (startE N ds) μ (outs μ.next Q QX)) (hl : ∀ ds μ Q QX, sp ds μ Q QX → ds.length = ps.length) : FnOk B.P B.w B.K B.mg B.base (L2.CX B.P B.w) (k + 1) f fd ps (lift ⟨B.K, T, cls⟩ sp) := by
  obtain ⟨oc, od, kV, doc, pm, an, cdv, ct, osl, rfl, lk, hcode⟩ := F.ex
  refine fn_of lk hcode S (fun vs H Q E h => ?_) fun A outer s H vs Q E hr hsp => ?_
  · obtain ⟨S0, ds, QM, QX, rfl, R, r, hs, _, _⟩ := h
    rw [r.length]
    exact hl _ _ _ _ hs
  · obtain ⟨S0, ds, QM, QX, rfl, R, r, hs, hq, hx⟩ := hsp
    obtain ⟨_, hw⟩ := h ds S0.μ QM QX R.wf r.objB hs
    refine ⟨DS ⟨B.K, T, cls⟩ (fun cl d _ H => E cl d H) c, ?_, ?_⟩
    · refine sndB (B := B) (k := k) (cd := cd) (X := cxOf (L2.CX B.P B.w) B.P B.w B.K B.mg B.base N qual (defScope st) f cdv A outer s S0.H E) c ⟨rfl, ⟨rfl, S.nd, hr, fun _ _ => rfl⟩, fun z => ?_, takes_of rfl rfl rfl rfl, (fun h => by cases h), fun _ => S.kind⟩ (passes_of rfl) ok hc
      obtain ⟨c1, P, e1, tb, hP⟩ := hcd z cdv hcode ⟨oc, od, kV, doc, pm, an, ct, osl, lk⟩
      exact ⟨c1, P, e1, tb, hP⟩
    · refine ⟨S0, startE N ds, outs S0.μ.next QM QX, rfl, R, env_start r, hw, ?_⟩
      have fin : ∀ S' d v, S0.le S' → Rl ⟨B.K, T, cls⟩ S' → Rep B.K S'.vw d v → finP S0.μ.next QM d S'.μ → Q v S'.H := by
        rintro S' d v l R' r' ⟨μ1, hn, hp, ho, q⟩
        obtain ⟨hx1, R1⟩ := R'.part hp
        exact hq { S' with μ := μ1 } d v ⟨⟨l.1.1.trans hx1, l.1.2.1, hn⟩, l.2⟩ R1 (Rep.down (w := S'.vw) (w' := Ss.vw { S' with μ := μ1 }) hx1 (fun _ _ => rfl) r' ho) q
      refine ⟨fun S' δ' σ' l R' _ q => fin S' .non .non l R' rfl q, fun S' d v l R' r' q => fin S' d v l R' r' q, fun _ _ _ _ _ _ q => q.elim, fun _ _ _ _ _ _ q => q.elim, ?_⟩
      rintro S' x δ' σ' l R' _ ⟨μ1, hn, hp, q⟩
      obtain ⟨hx1, R1⟩ := R'.part hp
      exact hx { S' with μ := μ1 } x ⟨⟨l.1.1.trans hx1, l.1.2.1, hn⟩, l.2⟩ R1 q
end
end M
end

section
set_option Elab.async false
set_option linter.all false
set_option maxRecDepth 100000
set_option maxHeartbeats 4000000
set_option autoImplicit false
/-! M: nodes. -/
namespace M
open PySem PySem.Spec PyProof.Rows L2
section
variable {B : Bs} {T : List Addr} {cls : Nat → Addr} {k : Nat} {cd : Prop} {X : Cx} {Wx : WX}
/-! ### raise of an own class -/
def fRse (x : Str) : SF := fun _ sc st => match st with
  | .Raise (some (.Call (.Name y _) [.Constant (.str _) _ _] [] _)) none _ => if x = y ∧ glB sc y = true then some [] else none
  | _ => none
def eRse (c : Nat) : EvS := fun δ _ μ O => O.xc c δ μ
def RsC (B : Bs) (cls : Nat → Addr) (x : Str) (c : Nat) : Prop :=
  B.mg x = some (.ref (cls c)) ∧ PySem.W.keepIn B.K (.ref (cls c)) = true ∧ (x == ("__debug__" : Str)) = false ∧ (∃ Bn newId initId bm, ExcBaseFacts Bn newId initId bm ∧ PySem.W.excIn B.K (cls c) bm newId = true) ∧
    PySem.W.subIn B.K (.ref (cls c)) (.type "BaseException") = some true ∧ PySem.W.typeIn B.K (.ref (cls c)) = some (.type "type")
theorem n_rse {x : Str} {c : Nat} (h : RsC B cls x c) : SnoOk B T cls k cd (fRse x) (eRse c) := by
  intro X Wx st es as S hf hp
  unfold fRse at hf
  split at hf
  · rename_i y p m j p2 p3 pos
    split at hf
    · rename_i hc
      obtain ⟨rfl, hg⟩ := hc
      cases hf
      have e := hp.none
      subst e
      have hB := S.bs
      subst hB
      obtain ⟨gC, kC, hd, ⟨Bn, n1, n2, bm, F, q⟩, h1, h2⟩ := h
      refine PS.weak (ps_raise S.g.calm S.tk (pmk_own F q gC kC (raises_own h1 h2) (gl_of hg) hd)) fun E σ H h => ?_
      obtain ⟨S0, δ, O, rfl, R, hE, hw, C⟩ := h
      simp only [wpS, wpA, eRse] at hw
      exact C.xc S0 c δ σ (.refl _) R hE hw
    · cases hf
  · cases hf

/-! ### max(xs, default=z) -/
def maxI (z : Int) : List Int → Int
  | [] => z
  | n :: ns => ns.foldl max n
theorem foldl_max : ∀ (ns : List Int) (n : Int), (ns.foldl max n ∈ n :: ns) ∧ ∀ y ∈ n :: ns, y ≤ ns.foldl max n
  | [], n => ⟨List.mem_cons_self, fun y hy => by simp only [List.mem_singleton] at hy; rw [hy]; exact Int.le_refl _⟩
  | m :: ns, n => by
    obtain ⟨h1, h2⟩ := foldl_max ns (max n m)
    refine ⟨?_, fun y hy => ?_⟩
    · show ns.foldl max (max n m) ∈ _
      rcases List.mem_cons.mp h1 with e | e
      · rw [e]
        by_cases hnm : n ≤ m
        · rw [show max n m = m by omega]; simp
        · rw [show max n m = n by omega]; simp
      · exact List.mem_cons_of_mem _ (List.mem_cons_of_mem _ e)
    · show y ≤ ns.foldl max (max n m)
      have h3 := h2 (max n m) List.mem_cons_self
      rcases List.mem_cons.mp hy with e | e
      · omega
      · rcases List.mem_cons.mp e with e | e
        · omega
        · exact h2 y (List.mem_cons_of_mem _ e)
theorem maxI_of {z m : Int} {ns : List Int} (h : ns = [] ∧ m = z ∨ m ∈ ns ∧ ∀ y ∈ ns, y ≤ m) : m = maxI z ns := by
  rcases h with ⟨rfl, rfl⟩ | ⟨h1, h2⟩
  · rfl
  · cases ns with
    | nil => cases h1
    | cons n ns =>
      obtain ⟨h3, h4⟩ := foldl_max ns n
      have := h2 _ h3
      have := h4 _ h1
      show m = ns.foldl max n
      omega
def eMaxD (z : Int) : EvE := fun _ ds μ Q _ => match ds with
  | [d] => ∃ ns : List Int, asL d μ = some (ns.map .int) ∧ Q (.int (maxI z ns)) μ
  | _ => False
def fMaxD (z : Int) : XF := fun _ sc _ e => match e with
  | .Call (.Name y _) [e] [⟨some kw, .Constant (.int j) _ _, _⟩] _ => if y = ("max" : Str) ∧ glB sc y = true ∧ kw = Str.ofString "default" ∧ z = j ∧ isStar e = false then some [e] else none
  | _ => none
theorem reps_ints {K : PySem.W.Frag} {w : Vw} : ∀ {ns : List Int} {xs : List V}, Reps K w (ns.map .int) xs → xs = ns.map V.int
  | [], _, h => h
  | n :: ns, _, ⟨x, r, e, h, t⟩ => by
    have h : x = .int n := h
    rw [e, h, reps_ints t]
    rfl
theorem cr_maxKw (hc : X.calm = true) : CallRK X (.builtin "max") [Str.ofString "default"] fun vs zs H Q => ∃ (a : Addr) (ns : List Int) (z : Int), vs = [V.ref a] ∧ zs = [.int z] ∧ SqL X.K H a (ns.map V.int) ∧ Q (.int (maxI z ns)) H := by
  intro pins s σ H vs zs us ws Q I r rz h
  obtain ⟨a, ns, z, rfl, rfl, hs, q⟩ := h
  obtain rfl := Vals.ref1 r
  obtain ⟨w1, rfl, tz, rfl⟩ := vals1 rz
  obtain ⟨its, rv, hl, _⟩ := I.list hs
  have hi := rv.ints
  have hl := hl.isList
  obtain ⟨xs, e⟩ := hi.allInts.items
  have hn : numsOf (intItems xs).toList = ns := by rw [← e]; exact hi.numsOf
  rw [nums_intItems] at hn
  subst hn
  rw [e] at hl
  have hh := I.ok.hd hc
  refine call_maxKw (iter_intList hl fun s2 e2 st hfp hlI => ?_)
  subst e2
  refine ⟨_, _, _, _, _, _, _, rfl, Walks.list (A := X.A.in1) hh _ a hlI (intItems xs), st, hfp, CmpOf.ints_gt (numAt xs) (fun _ _ => intItems_at), fun v h' tk hv hk => ?_⟩
  have J := I.kept (t' := tk) (old_kept hk)
  have hsz : (intItems xs).size = xs.size := by simp [intItems]
  rcases hv with ⟨h0, rfl⟩ | ⟨h0, hP⟩
  · rw [hsz] at h0
    have : xs.toList.map (·.1) = [] := by
      have : xs.toList = [] := by
        rw [← List.length_eq_zero_iff, Array.length_toList]
        exact h0
      rw [this]
      rfl
    rw [this] at q
    exact ⟨.int z, H, J, ⟨_, rfl⟩, q⟩
  · have hP : (intItems xs)[argBest (fun i j => decide (numAt xs i > numAt xs j)) ((intItems xs).size - 1)]? = some v := hP
    rw [hsz] at hP h0
    obtain ⟨t, rfl⟩ := intItems_at hP
    obtain ⟨h1, h2⟩ := argBest_gt (numAt xs) (xs.size - 1)
    have em := maxI_of (z := z) (m := numAt xs (argBest (fun i j => decide (numAt xs i > numAt xs j)) (xs.size - 1))) (ns := xs.toList.map (·.1)) (.inr ⟨?_, fun b hb => ?_⟩)
    · rw [← em] at q
      exact ⟨.int _, H, J, ⟨_, rfl⟩, q⟩
    · rw [numAt_eq]; exact PySem.getD_mem (by rw [List.length_map, Array.length_toList]; omega)
    · obtain ⟨j, hj, rfl⟩ := mem_getD hb
      rw [List.length_map, Array.length_toList] at hj
      rw [← numAt_eq]; exact h2 j (by omega)
theorem n_maxD {z : Int} (h : B.mg "max" = none) : NodOk B T cls k cd (fMaxD z) (eMaxD z) := by
  intro X top Wx e es as S hf hp
  unfold fMaxD at hf
  split at hf
  · rename_i y p e kw j j2 p2 kp pos
    split at hf
    · rename_i hc
      obtain ⟨rfl, hg, rfl, rfl, hst⟩ := hc
      cases hf
      obtain ⟨ci, rfl, _, hi⟩ := hp.one
      have hB := S.bs
      subst hB
      refine PE.weak (pe_callBK (cr_maxKw S.g.calm) (gl_of hg) h (show bootBuiltins "max" = some (.builtin "max") by decide +kernel) (pa_cons hi pa_nil (star_of hst)) (pk_cons pe_int pk_nil) (by decide) (by decide) (by rw [star_of hst]; rfl) (by rw [star_of hst]; rfl) rfl rfl rfl) fun σ H Q hh => ?_
      obtain ⟨S0, δ, QM, QX, rfl, R, hE, hw, hq, hx⟩ := hh
      simp only [wpE, wpA] at hw
      refine ⟨S0, δ, _, QX, rfl, R, hE, hw, fun S1 d1 v1 l1 R1 r1 w1 => ?_, hx⟩
      obtain ⟨ns, e1, q⟩ := w1
      obtain ⟨a, xs, rfl, hs, rr⟩ := asL_rep R1 r1 e1
      rw [reps_ints rr] at hs
      exact ⟨a, ns, z, rfl, rfl, hs, hq S1 (.int _) _ l1 R1 rfl q⟩
    · cases hf
  · cases hf

/-! ### a written dict with text keys -/
def GdC (B : Bs) (g : Str) (tbl : List (Str × D)) : Prop := ∃ p es n, B.mg g = some (.ref p) ∧ B.K.lookup p = some ⟨.type "dict", none, .dict es n, #[]⟩ ∧ PySem.W.KeysLit B.w.params es.toList ∧ (p == sysModules) = false ∧
  ∀ z, match tbl.lookup z with
    | some d => ∃ u v, PySem.W.nsIn B.K p z = some (some u) ∧ RelV v u ∧ ∀ w, Rep B.K w d v
    | none => PySem.W.nsIn B.K p z = some none
def KIn (K : PySem.W.Frag) (w : World) (neg : Bool) : R2 := fun x y H Q => ∃ p z es n r, y = .ref p ∧ x = .str z ∧ K.lookup p = some ⟨.type "dict", none, .dict es n, #[]⟩ ∧ PySem.W.KeysLit w.params es.toList ∧ (p == sysModules) = false ∧ PySem.W.nsIn K p z = some r ∧ Q (.bl (r.isSome != neg)) H
theorem op_kin : OpR X (compareOp .In) (KIn X.K X.w false) := by
  intro pins s σ H x y v u Q I rx ry h
  obtain ⟨p, z, es, n, r, rfl, rfl, hl, hk, low, e, q⟩ := h
  obtain ⟨t, rfl⟩ := rx
  obtain rfl : u = Value.ref p := ry
  have hm := PySem.W.mapOf_K (prog := X.prog) (w := X.w) I.kIn hl hk
  refine wpAny_in_of (strKind_is X.prog X.w z t) low hm ?_
  rw [PySem.W.find_K hl e]
  rw [Bool.bne_false] at q
  exact ⟨.bl _, H, I.tok _, rfl, q⟩
theorem op_knin : OpR X (compareOp .NotIn) (KIn X.K X.w true) := by
  intro pins s σ H x y v u Q I rx ry h
  obtain ⟨p, z, es, n, r, rfl, rfl, hl, hk, low, e, q⟩ := h
  obtain ⟨t, rfl⟩ := rx
  obtain rfl : u = Value.ref p := ry
  have hm := PySem.W.mapOf_K (prog := X.prog) (w := X.w) I.kIn hl hk
  refine wpAny_notIn_of (strKind_is X.prog X.w z t) low hm ?_
  rw [PySem.W.find_K hl e]
  rw [Bool.bne_true] at q
  exact ⟨.bl _, H, I.tok _, rfl, q⟩
/-- e in G, e not in G -/
def eGin (neg : Bool) (tbl : List (Str × D)) : EvE := fun _ ds μ Q _ => match ds with
  | [.str z] => Q (.bl ((tbl.lookup z).isSome != neg)) μ
  | _ => False
def eGinT (neg : Bool) (tbl : List (Str × D)) : EvT := fun _ ds μ Q _ => match ds with
  | [.str z] => Q ((tbl.lookup z).isSome != neg) μ
  | _ => False
def inOp : Bool → CmpOp
  | true => .NotIn
  | false => .In
def fGin (neg : Bool) (g : Str) : XF := fun _ sc _ e => match e with
  | .Compare a [o] [.Name y p] _ => if o = inOp neg ∧ g = y ∧ glB sc y = true ∧ okName y = true then some [a] else none
  | _ => none
theorem gin_read {neg : Bool} {g : Str} {tbl : List (Str × D)} {ci : IR} {σ : L2.St} {H : Hp} {Q : VK} {p : Addr} (hg : B.mg g = some (.ref p)) (hB : Cx.bs X = B) (h : GdC B g tbl)
    (hh : ∃ S δ QM QX, S.H = H ∧ Rl (wd X T cls) S ∧ EnvR (wd X T cls) S.vw δ σ ∧ wpE ci δ S.μ (fun x μ1 => eGin neg tbl δ [x] μ1 QM QX) QX ∧ After (wd X T cls) S QM Q ∧ AfterX (wd X T cls) S QX (WE Wx σ)) :
    DE (wd X T cls) Wx ci σ H fun x H1 => tC (.ref p) σ H1 fun y H2 => KIn X.K X.w neg x y H2 Q := by
  subst hB
  obtain ⟨S0, δ, QM, QX, rfl, R, hE, hw, hq, hx⟩ := hh
  refine ⟨S0, δ, _, QX, rfl, R, hE, hw, fun S1 d1 v1 l1 R1 r1 w1 => ?_, hx⟩
  dsimp only [eGin] at w1
  split at w1
  · rename_i z hz
    cases hz
    obtain ⟨p', es, n, e1, e2, e3, e4, e5⟩ := h
    have hp : p' = p := by
      rw [hg] at e1
      cases e1
      rfl
    subst hp
    have := e5 z
    cases hl : tbl.lookup z with
    | some d =>
      rw [hl] at this w1
      obtain ⟨u, v, f1, _, _⟩ := this
      exact ⟨p', z, es, n, _, rfl, r1, e2, e3, e4, f1, hq S1 (.bl _) _ l1 R1 rfl w1⟩
    | none =>
      rw [hl] at this w1
      exact ⟨p', z, es, n, _, rfl, r1, e2, e3, e4, this, hq S1 (.bl _) _ l1 R1 rfl w1⟩
  · exact w1.elim
theorem n_gin {neg : Bool} {g : Str} {tbl : List (Str × D)} (h : GdC B g tbl) : NodOk B T cls k cd (fGin neg g) (eGin neg tbl) := by
  intro X top Wx e es as S hf hp
  unfold fGin at hf
  split at hf
  · rename_i a o y p pos
    split at hf
    · rename_i hc
      obtain ⟨rfl, rfl, hg, hn⟩ := hc
      cases hf
      obtain ⟨ci, rfl, _, hi⟩ := hp.one
      have hB := S.bs
      subst hB
      obtain ⟨p', es', n, e1, e2, e3⟩ := id h
      cases neg with
      | false =>
        refine PE.weak (pe_cmpR (op := .In) op_kin hi (pe_glob (gl_of hg) e1 (v := .ref p') rfl (okN hn).1) rfl) fun σ H Q hh => ?_
        obtain ⟨S0, δ, QM, QX, h0, R, hE, hw, hq, hx⟩ := hh
        simp only [wpE, wpA] at hw
        exact gin_read e1 rfl h ⟨S0, δ, QM, QX, h0, R, hE, hw, hq, hx⟩
      | true =>
        refine PE.weak (pe_cmpR (op := .NotIn) op_knin hi (pe_glob (gl_of hg) e1 (v := .ref p') rfl (okN hn).1) rfl) fun σ H Q hh => ?_
        obtain ⟨S0, δ, QM, QX, h0, R, hE, hw, hq, hx⟩ := hh
        simp only [wpE, wpA] at hw
        exact gin_read e1 rfl h ⟨S0, δ, QM, QX, h0, R, hE, hw, hq, hx⟩
    · cases hf
  · cases hf
theorem n_ginT {neg : Bool} {g : Str} {tbl : List (Str × D)} (h : GdC B g tbl) : TndOk B T cls k cd (fGin neg g) (eGinT neg tbl) := by
  intro X top Wx e es as S hf hp
  unfold fGin at hf
  split at hf
  · rename_i a o y p pos
    split at hf
    · rename_i hc
      obtain ⟨rfl, rfl, hg, hn⟩ := hc
      cases hf
      obtain ⟨ci, rfl, _, hi⟩ := hp.one
      have hB := S.bs
      subst hB
      obtain ⟨p', es', n, e1, e2, e3⟩ := id h
      have rd : ∀ σ H Q, DT (wd X T cls) Wx (.tnd (fGin neg g) (eGinT neg tbl) (.cons ci .nil)) σ H Q → DE (wd X T cls) Wx ci σ H fun x H1 => tC (.ref p') σ H1 fun y H2 => KIn X.K X.w neg x y H2 fun v H3 => ∃ b, v = .bl b ∧ Q b H3 := fun σ H Q hh => by
        obtain ⟨S0, δ, QM, QX, h0, R, hE, hw, hq, hx⟩ := hh
        simp only [wpT, wpA] at hw
        refine gin_read e1 rfl h ⟨S0, δ, (fun d μ => ∃ b, d = .bl b ∧ QM b μ), QX, h0, R, hE, ?_, fun S' d v l R' r q => ?_, hx⟩
        · refine (show (fun x μ1 => eGin neg tbl δ [x] μ1 (fun d μ => ∃ b, d = .bl b ∧ QM b μ) QX) = (fun x μ1 => eGinT neg tbl δ [x] μ1 QM QX) from ?_) ▸ hw
          funext x μ1
          apply propext
          unfold eGin eGinT
          split
          · exact ⟨fun ⟨b, e, q⟩ => by cases e; exact q, fun q => ⟨_, rfl, q⟩⟩
          · exact Iff.rfl
        · obtain ⟨b, rfl, q⟩ := q
          exact ⟨b, r, hq S' b l R' q⟩
      cases neg with
      | false => exact PT.weak (pt_cmpR (op := .In) op_kin hi (pe_glob (gl_of hg) e1 (v := .ref p') rfl (okN hn).1) rfl) rd
      | true => exact PT.weak (pt_cmpR (op := .NotIn) op_knin hi (pe_glob (gl_of hg) e1 (v := .ref p') rfl (okN hn).1) rfl) rd
    · cases hf
  · cases hf
/-- G[e] -/
def eGix (tbl : List (Str × D)) : EvE := fun _ ds μ Q _ => match ds with
  | [.str z] => match tbl.lookup z with
    | some d => Q d μ
    | none => False
  | _ => False
def fGix (g : Str) : XF := fun _ sc _ e => match e with
  | .Subscript (.Name y p) a _ => if g = y ∧ glB sc y = true ∧ okName y = true ∧ isSlice a = false then some [a] else none
  | _ => none
theorem n_gix {g : Str} {tbl : List (Str × D)} (h : GdC B g tbl) : NodOk B T cls k cd (fGix g) (eGix tbl) := by
  intro X top Wx e es as S hf hp
  unfold fGix at hf
  split at hf
  · rename_i y p a pos
    split at hf
    · rename_i hc
      obtain ⟨rfl, hg, hn, hsl⟩ := hc
      cases hf
      obtain ⟨ci, rfl, _, hi⟩ := hp.one
      have hB := S.bs
      subst hB
      obtain ⟨p', es', n, e1, e2, e3, e4, e5⟩ := id h
      refine PE.weak (pe_ix ix_kdict (pe_glob (gl_of hg) e1 (v := .ref p') rfl (okN hn).1) hi (plainIx_of hsl)) fun σ H Q hh => ?_
      obtain ⟨S0, δ, QM, QX, rfl, R, hE, hw, hq, hx⟩ := hh
      simp only [wpE, wpA] at hw
      refine ⟨S0, δ, _, QX, rfl, R, hE, hw, fun S1 d1 v1 l1 R1 r1 w1 => ?_, hx⟩
      dsimp only [eGix] at w1
      split at w1
      · rename_i z hz
        cases hz
        have := e5 z
        cases hl : tbl.lookup z with
        | some d =>
          rw [hl] at this w1
          obtain ⟨u, v, f1, f2, f3⟩ := this
          exact ⟨p', z, v, rfl, r1, ⟨es', n, u, e2, e3, f1, f2⟩, hq S1 d v l1 R1 (f3 _) w1⟩
        | none =>
          rw [hl] at w1
          exact w1.elim
      · exact w1.elim
    · cases hf
  · cases hf

/-! ### f() -/
def eCal0 (sp : Spec) : EvE := fun _ _ μ Q X => sp [] μ Q X
def fCal0 (x : Str) : XF := fun _ sc _ e => match e with
  | .Call (.Name y _) [] [] _ => if x = y ∧ glB sc y = true then some [] else none
  | _ => none
theorem n_cal0 {x : Str} {sp : Spec} (h : FnC B T cls k x sp) : NodOk B T cls k cd (fCal0 x) (eCal0 sp) := by
  intro X top Wx e es as S hf hp
  unfold fCal0 at hf
  split at hf
  · rename_i y p pos
    split at hf
    · rename_i hc
      obtain ⟨rfl, hg⟩ := hc
      cases hf
      have e := hp.none
      subst e
      have hB := S.bs
      subst hB
      obtain ⟨f, fd, ps, sp', dd, dvs, dus, hm, hk, hdb, F, b, hd, hrd, imp⟩ := h
      refine ⟨fun pins s σ H Q I hh => ?_⟩
      refine wpAny_Call_Name_kw (ld_glob I (gl_of hg) hm ?_ hdb)
      refine PySem.W.callWith_K0 I.kIn hk (run_fnSD (us := []) (vs := []) (E := WE Wx) F S.g.room b hd (passAt S.tk σ) I .nil ?_)
      obtain ⟨S0, δ, QM, QX, rfl, R, hE, hw, hq, hx⟩ := hh
      simp only [wpE, wpA] at hw
      exact ⟨S0, dd, QM, QX, rfl, R, hrd _, imp _ _ _ _ hw, hq, hx⟩
    · cases hf
  · cases hf
end
end M
end

section
set_option Elab.async false
set_option linter.all false
set_option maxRecDepth 100000
set_option maxHeartbeats 4000000
set_option autoImplicit false
/-! M: dict displays, get. -/
namespace M
open PySem PySem.Spec PyProof.Rows L2
section
variable {W : Wd} {S : Ss} {p : Addr} {o : HO}
/-- what was kept becomes a cell -/
theorem Rl.adopt {c : Cell} {pv' : Hp} {u : HO} (R : Rl W S) (hp : S.pv p = some u) (hv : ∀ a o, pv' a = some o → S.pv a = some o ∧ a ≠ p) (n : CellOk W ⟨hid S, newρ S.ρ S.μ.next p, S.μ.next + 1⟩ (upd S.H p o) p c) :
    S.vw.le (Ss.vw { ρ := newρ S.ρ S.μ.next p, μ := S.μ.new c, H := upd S.H p o, pv := pv' }) ∧ Rl W { ρ := newρ S.ρ S.μ.next p, μ := S.μ.new c, H := upd S.H p o, pv := pv' } := by
  have lt : ∀ {j d}, S.μ.cell j = some d → j ≠ S.μ.next := fun {j d} e => Nat.ne_of_lt (R.lt j d e)
  have nep : ∀ {j d}, S.μ.cell j = some d → S.ρ j ≠ p := fun {j d} e => (R.prv p u hp).2 j d e
  have cs : ∀ {j d}, (S.μ.new c).cell j = some d → (j = S.μ.next ∧ d = c) ∨ (j ≠ S.μ.next ∧ S.μ.cell j = some d) := fun {j d} e => by
    by_cases hj : j = S.μ.next
    · subst hj
      rw [Sto.new_same] at e
      cases e
      exact .inl ⟨rfl, rfl⟩
    · rw [Sto.new_ne hj] at e
      exact .inr ⟨hj, e⟩
  have l : S.vw.le (Ss.vw { ρ := newρ S.ρ S.μ.next p, μ := S.μ.new c, H := upd S.H p o, pv := pv' }) := by
    refine ⟨Ext.of_ex fun a v h => ?_, fun k hk => newρ_ne (Nat.ne_of_lt hk), Nat.le_succ _⟩
    have h : hid S a = some v := h
    obtain ⟨h1, h2⟩ := hid_some.mp h
    have ap : a ≠ p := fun z => h2 (.inr ⟨u, by rw [z]; exact hp⟩)
    refine hid_some.mpr ⟨(upd_ne ap).trans h1, ?_⟩
    rintro (⟨j, d, e1, e2⟩ | ⟨x, e1⟩)
    · have e2 : newρ S.ρ S.μ.next p j = a := e2
      rcases cs e1 with ⟨rfl, _⟩ | ⟨n1, e3⟩
      · rw [newρ_same] at e2
        exact ap e2.symm
      · rw [newρ_ne n1] at e2
        exact h2 (.inl ⟨j, d, e3, e2⟩)
    · exact h2 (.inr ⟨x, (hv a x e1).1⟩)
  have lv : Vw.le ⟨hid S, newρ S.ρ S.μ.next p, S.μ.next + 1⟩ (Ss.vw { ρ := newρ S.ρ S.μ.next p, μ := S.μ.new c, H := upd S.H p o, pv := pv' }) := ⟨l.1, fun _ _ => rfl, Nat.le_refl _⟩
  refine ⟨l, fun i j d e h1 h2 h3 => ?_, fun j d e => ?_, fun j d e => ?_, fun a ha => tab_ext l.1 (R.tab a ha), fun a v e => ⟨?_, fun j d e2 => ?_⟩⟩
  · have h3 : newρ S.ρ S.μ.next p i = newρ S.ρ S.μ.next p j := h3
    rcases cs h1 with ⟨e1, _⟩ | ⟨n1, e1⟩ <;> rcases cs h2 with ⟨e2, _⟩ | ⟨n2, e2⟩
    · rw [e1, e2]
    · rw [e1, newρ_same, newρ_ne n2] at h3
      exact absurd h3.symm (nep e2)
    · rw [e2, newρ_same, newρ_ne n1] at h3
      exact absurd h3 (nep e1)
    · rw [newρ_ne n1, newρ_ne n2] at h3
      exact R.inj i j d e e1 e2 h3
  · rcases cs e with ⟨e1, _⟩ | ⟨n1, e1⟩
    · rw [e1]
      exact Nat.lt_succ_self _
    · exact Nat.lt_succ_of_lt (R.lt j d e1)
  · rcases cs e with ⟨e1, e2⟩ | ⟨n1, e1⟩
    · subst e1 e2
      show CellOk W _ _ (newρ S.ρ S.μ.next p S.μ.next) d
      rw [newρ_same]
      exact n.mono lv rfl
    · show CellOk W _ _ (newρ S.ρ S.μ.next p j) d
      rw [newρ_ne n1]
      exact (R.ok j d e1).mono l (upd_ne (nep e1))
  · obtain ⟨h1, h2⟩ := hv a v e
    exact (upd_ne h2).trans (R.prv a v h1).1
  · show newρ S.ρ S.μ.next p j ≠ a
    obtain ⟨h1, h2⟩ := hv a v e
    rcases cs e2 with ⟨e3, _⟩ | ⟨n1, e3⟩
    · rw [e3, newρ_same]
      exact fun z => h2 z.symm
    · rw [newρ_ne n1]
      exact (R.prv a v h1).2 j d e3
end
section
variable {B : Bs} {T : List Addr} {cls : Nat → Addr} {k : Nat} {cd : Prop} {X : Cx} {Wx : WX}
/-- {'..': e, ..}: a new dict -/
def keyB : Option Expr → Str → Bool
  | some (.Constant (.str x) _ _), y => decide (x = y)
  | _, _ => false
theorem keyB_of {k : Option Expr} {y : Str} (h : keyB k y = true) : ∃ j p, k = some (.Constant (.str y) j p) := by
  unfold keyB at h
  split at h
  · rw [decide_eq_true_eq] at h
    subst h
    exact ⟨_, _, rfl⟩
  · cases h
def keysB : List (Option Expr) → List Str → Bool
  | [], [] => true
  | k :: ks, y :: ys => keyB k y && keysB ks ys
  | _, _ => false
theorem keysB_all : ∀ {keys : List (Option Expr)} {ks : List Str}, keysB keys ks = true → keys.all (·.isSome) = true ∧ keys.length = ks.length
  | [], [], _ => ⟨rfl, rfl⟩
  | [], _ :: _, h => by cases (show false = true from h)
  | _ :: _, [], h => by cases (show false = true from h)
  | k :: keys, y :: ks, h => by
    have h : (keyB k y && keysB keys ks) = true := h
    rw [Bool.and_eq_true] at h
    obtain ⟨h1, h2⟩ := keysB_all h.2
    obtain ⟨j, p, rfl⟩ := keyB_of h.1
    exact ⟨by rw [List.all_cons, h1]; rfl, by rw [List.length_cons, List.length_cons, h2]⟩
theorem zip_keys : ∀ (ks : List Str) (vs : List V), (ks.map V.str).zip vs = ((ks.map Sum.inr).zip vs).map (fun kv : Key × V => (kV kv.1, kv.2))
  | [], _ => by simp
  | k :: ks, [] => by simp
  | k :: ks, v :: vs => by
    simp only [List.map_cons, List.zip_cons_cons]
    rw [zip_keys ks vs]
    rfl
def eDsp (ks : List Str) : EvE := fun _ ds μ Q _ => Q (.obj μ.next) (μ.new (.dct ((ks.map Sum.inr).zip ds)))
def fDsp (ks : List Str) : XF := fun _ _ _ e => match e with
  | .Dict keys vals _ => if keysB keys ks = true ∧ ks.Nodup ∧ keys.length = vals.length ∧ keys ≠ [] ∧ keys.length ≤ 15 then some vals else none
  | _ => none
theorem pairs_of {pos : Pos} : ∀ {ks : List Str} {keys : List (Option Expr)} {vals : List Expr} {as : IR}, keysB keys ks = true → keys.length = vals.length → PEs X (wd X T cls) Wx as vals →
    ∃ trs, PPs X pos keys vals trs ∧ ∀ (S : Ss) (δ : Env) (σ : L2.St) (QM : List D → Sto → Prop) (QX : XPost) (Q : List (V × V) → Hp → Prop), Rl (wd X T cls) S → EnvR (wd X T cls) S.vw δ σ → wpA as δ S.μ QM QX →
      (∀ S' ds vs, S.le S' → Rl (wd X T cls) S' → Reps X.K S'.vw ds vs → ds.length = ks.length → QM ds S'.μ → Q ((ks.map V.str).zip vs) S'.H) → AfterX (wd X T cls) S QX (WE Wx σ) → tPairs trs σ S.H Q
  | [], [], vals, as, _, hl, hp => by
    cases vals with
    | cons _ _ => cases hl
    | nil =>
      have e := hp.none
      subst e
      refine ⟨[], pps_nil, fun S δ σ QM QX Q R hE hw hq hx => ?_⟩
      simp only [wpA] at hw
      exact hq S [] [] (.refl _) R rfl rfl hw
  | [], _ :: keys, vals, as, hk, _, _ => by cases (show false = true from hk)
  | y :: ks, [], vals, as, hk, _, _ => by cases (show false = true from hk)
  | y :: ks, key :: keys, vals, as, hk, hl, hp => by
    have hk : (keyB key y && keysB keys ks) = true := hk
    rw [Bool.and_eq_true] at hk
    obtain ⟨j, p, rfl⟩ := keyB_of hk.1
    cases vals with
    | nil => cases hl
    | cons v vals =>
      cases as with
      | cons a r =>
        obtain ⟨_, h3, h4⟩ := hp
        obtain ⟨trs, hpp, hrd⟩ := pairs_of (ks := ks) (keys := keys) (vals := vals) (as := r) (pos := pos) hk.2 (by simpa using hl) h4
        refine ⟨(_, _) :: trs, pps_cons pe_str h3 hpp, fun S δ σ QM QX Q R hE hw hq hx => ?_⟩
        simp only [wpA] at hw
        refine ⟨S, δ, _, QX, rfl, R, hE, hw, fun S1 d1 v1 l1 R1 r1 w1 => ?_, hx⟩
        refine hrd S1 δ σ _ QX _ R1 (hE.mono l1.1) w1 (fun S2 ds vs l2 R2 r2 hlen w2 => ?_) (hx.le l1)
        exact hq S2 (d1 :: ds) (v1 :: vs) (l1.trans l2) R2 ⟨v1, vs, rfl, r1.mono l2.1, r2⟩ (by simp [hlen]) w2
      | nil => cases (show v :: vals = [] from hp)
      | _ => exact (show False from hp).elim
theorem merge_nodup {V' : Type} : ∀ (more acc : List (Key × V)), ((acc ++ more).map (·.1)).Nodup → mergeK acc more = acc ++ more
  | [], acc, _ => by simp [mergeK]
  | (a, b) :: more, acc, h => by
    have hn : (acc.any fun kv => decide (kv.1 = a)) = false := by
      rw [List.any_eq_false]
      intro kv hm z
      rw [decide_eq_true_eq] at z
      rw [List.map_append, List.nodup_append] at h
      exact h.2.2 kv.1 (List.mem_map_of_mem hm) a (by simp) z
    have e : putK acc a b = acc ++ [(a, b)] := by
      unfold putK
      rw [if_neg (by rw [hn]; exact Bool.false_ne_true)]
    show mergeK (putK acc a b) more = _
    rw [e, merge_nodup (V' := V') more (acc ++ [(a, b)]) (by simpa using h)]
    simp
theorem zip_rep {K : PySem.W.Frag} {w : Vw} : ∀ {ks : List Key} {ds : List D} {vs : List V}, Reps K w ds vs → RepP K w (ks.zip ds) (ks.zip vs)
  | [], _, _, _ => by simp; rfl
  | k :: ks, [], vs, h => by
    have h : vs = [] := h
    subst h
    rfl
  | k :: ks, d :: ds, _, ⟨x, r, e, h, t⟩ => by
    rw [e]
    exact ⟨x, _, rfl, h, zip_rep t⟩
theorem n_dsp {ks : List Str} : NodOk B T cls k cd (fDsp ks) (eDsp ks) := by
  intro X top Wx e es as S hf hp
  unfold fDsp at hf
  split at hf
  · rename_i keys vals pos
    split at hf
    · rename_i hc
      obtain ⟨hk, hnd, hl, h0, h15⟩ := hc
      cases hf
      obtain ⟨hall, hkl⟩ := keysB_all hk
      obtain ⟨trs, hpp, hrd⟩ := pairs_of (ks := ks) (pos := pos) hk hl hp
      refine PE.weak (pe_disp hpp hall hl h0 h15) fun σ H Q hh => ?_
      obtain ⟨S0, δ, QM, QX, rfl, R, hE, hw, hq, hx⟩ := hh
      simp only [wpE] at hw
      intro D hD
      have pvD : S0.pv D = none := by
        cases e : S0.pv D with
        | none => rfl
        | some o =>
          have := (R.prv D o e).1
          rw [hD] at this
          cases this
      obtain ⟨lk, Rk⟩ := R.keep (o := .dK []) hD
      refine hrd { S0 with H := upd S0.H D (.dK []), pv := upd S0.pv D (.dK []) } δ σ _ QX _ Rk (hE.mono lk) hw (fun S2 ds vs l2 R2 r2 hlen w2 => ?_) (fun S2 x l2 R2 w2 => ?_)
      · have hpv : S2.pv = upd S0.pv D (.dK []) := l2.2
        have at2 : S2.pv D = some (.dK []) := by rw [hpv]; exact upd_same
        have lv : vs.length = ks.length := by rw [r2.length, hlen]
        have hmr : mergeK [] ((ks.map Sum.inr).zip vs) = (ks.map Sum.inr).zip vs := by
          rw [merge_nodup (V' := Nat)]
          · rfl
          · rw [List.nil_append, List.map_fst_zip (by rw [List.length_map, lv]; exact Nat.le_refl _)]
            exact List.Pairwise.map _ (fun a b h1 h2 => h1 (Sum.inr.inj h2)) hnd
        refine ⟨(R2.prv D _ at2).1, (ks.map Sum.inr).zip vs, ?_, ?_, ?_⟩
        · exact zip_keys ks vs
        · rw [List.length_zip, List.length_map, lv, Nat.min_self]
          rw [← hkl]
          exact h15
        · rw [hmr]
          have hv : ∀ a o, S0.pv a = some o → S2.pv a = some o ∧ a ≠ D := fun a o e => by
            have ha : a ≠ D := fun z => by rw [z, pvD] at e; cases e
            exact ⟨by rw [hpv, upd_ne ha]; exact e, ha⟩
          obtain ⟨l3, R3⟩ := R2.adopt (c := .dct ((ks.map Sum.inr).zip ds)) (pv' := S0.pv) (o := .dK ((ks.map Sum.inr).zip vs)) at2 hv ⟨_, upd_same, RepP.mono (w := S2.vw) (w' := ⟨hid S2, newρ S2.ρ S2.μ.next D, S2.μ.next + 1⟩) ⟨Ext.refl _, fun k hk => newρ_ne (Nat.ne_of_lt hk), Nat.le_succ _⟩ (zip_rep r2)⟩
          exact hq _ (.obj S2.μ.next) (.ref D) ⟨(lk.trans l2.1).trans l3, rfl⟩ R3 ⟨Nat.lt_succ_self _, by show V.ref D = V.ref (newρ S2.ρ S2.μ.next D S2.μ.next); rw [newρ_same]⟩ w2
      · have hpv : S2.pv = upd S0.pv D (.dK []) := l2.2
        obtain ⟨l3, R3⟩ := R2.give (pv' := S0.pv) fun a o e => by
          have ha : a ≠ D := fun z => by rw [z, pvD] at e; cases e
          rw [hpv, upd_ne ha]
          exact e
        exact hx { S2 with pv := S0.pv } x ⟨(lk.trans l2.1).trans l3, rfl⟩ R3 w2
    · cases hf
  · cases hf
/-- d.get(k, e) -/
theorem asK_rep {W : Wd} {S : Ss} {d : D} {v : V} {kvs : List (Key × D)} (R : Rl W S) (r : Rep W.K S.vw d v) (h : asK d S.μ = some kvs) : ∃ a es, v = .ref a ∧ S.H a = some (.dK es) ∧ RepP W.K S.vw kvs es := by
  unfold asK at h
  split at h
  · rename_i j
    split at h
    · rename_i c hc
      cases h
      obtain ⟨xs, e1, r2⟩ := R.ok _ _ hc
      exact ⟨_, xs, r.2, e1, r2⟩
    · cases h
  · cases h
def valD (kvs : List (Key × D)) (k : Key) : Option D := (kvs.find? fun kv => decide (kv.1 = k)).map (·.2)
theorem val_rep {K : PySem.W.Frag} {w : Vw} {k : Key} : ∀ {kvs : List (Key × D)} {es : List (Key × V)}, RepP K w kvs es → match valD kvs k with
    | some d => ∃ v, valV es k = some v ∧ Rep K w d v
    | none => valV es k = none
  | [], _, h => by
    have h : _ = [] := h
    subst h
    exact rfl
  | (a, d) :: kvs, _, ⟨x, r, e, h, t⟩ => by
    subst e
    unfold valD valV
    rw [List.find?_cons, List.find?_cons]
    by_cases ha : a = k
    · subst ha
      simp only [decide_true]
      exact ⟨x, rfl, h⟩
    · simp only [ha, decide_false]
      exact val_rep t
theorem key_rep {K : PySem.W.Frag} {w : Vw} {d : D} {v : V} {k : Key} (h : keyOf d = some k) (r : Rep K w d v) : v = kV k := by
  unfold keyOf at h
  split at h
  · cases h; exact r
  · cases h; exact r
  · cases h
def spDget : Spec := fun ds μ Q _ => match ds with
  | [d, e, f] => match asK d μ, keyOf e with
    | some kvs, some k => Q ((valD kvs k).getD f) μ
    | _, _ => False
  | [d, e] => match asK d μ, keyOf e with
    | some kvs, some k => Q ((valD kvs k).getD .non) μ
    | _, _ => False
  | _ => False
theorem m_dget : MtC B T cls k "dict" "dict.get" "get" spDget := by
  refine ⟨PySem.F.plainAttrs_dict, PySem.F.slot_dict_get, PySem.F.type_dict_get, fun X hB hc hr => ?_⟩
  intro pins s σ H x xs v us Q I rx rs h
  have hu : X.A.units + 1 < cLine := by have := hr.un; omega
  obtain ⟨S, d, ds, QM, rfl, R, rd, rr, hw, hq⟩ := h
  unfold spDget at hw
  split at hw
  · rename_i d0 e f hds
    cases hds
    split at hw
    · rename_i kvs key e1 e2
      obtain ⟨a, es, rfl, ha, re⟩ := asK_rep R rd e1
      obtain ⟨x1, r2, rfl, q1, q2⟩ := rr
      obtain ⟨x2, rfl, q3⟩ := Reps.inv1 q2
      obtain ⟨u1, u2, rfl, w1, w2⟩ := vals2 rs
      obtain rfl : v = Value.ref a := rx
      have := key_rep e2 q1
      subst this
      refine d_get2 hu I (DGet.k ha) w1 w2 fun w' s' I' rw' => ?_
      have hv := val_rep (k := key) re
      cases hd : valD kvs key with
      | some d' =>
        rw [hd] at hv hw
        obtain ⟨v', ev, rv⟩ := hv
        rw [ev] at rw'
        exact ⟨_, _, I', rw', hq S d' v' (.refl _) R rv hw⟩
      | none =>
        rw [hd] at hv hw
        rw [hv] at rw'
        exact ⟨_, _, I', rw', hq S f x2 (.refl _) R q3 hw⟩
    · exact hw.elim
  · rename_i d0 e hds
    cases hds
    split at hw
    · rename_i kvs key e1 e2
      obtain ⟨a, es, rfl, ha, re⟩ := asK_rep R rd e1
      obtain ⟨x1, rfl, q1⟩ := Reps.inv1 rr
      obtain ⟨u1, rfl, w1⟩ := vals1 rs
      obtain rfl : v = Value.ref a := rx
      have := key_rep e2 q1
      subst this
      refine d_get1 hu I (DGet.k ha) w1 fun w' s' I' rw' => ?_
      have hv := val_rep (k := key) re
      cases hd : valD kvs key with
      | some d' =>
        rw [hd] at hv hw
        obtain ⟨v', ev, rv⟩ := hv
        rw [ev] at rw'
        exact ⟨_, _, I', rw', hq S d' v' (.refl _) R rv hw⟩
      | none =>
        rw [hd] at hv hw
        rw [hv] at rw'
        exact ⟨_, _, I', rw', hq S .non .non (.refl _) R rfl hw⟩
    · exact hw.elim
  · exact hw.elim
end
end M
end

section
set_option Elab.async false
set_option linter.all false
set_option maxRecDepth 100000
set_option maxHeartbeats 4000000
set_option autoImplicit false
/-! M: built-ins. -/
namespace M
open PySem PySem.Spec PyProof.Rows L2
section
variable {B : Bs} {T : List Addr} {cls : Nat → Addr} {k : Nat} {cd : Prop} {X : Cx} {Wx : WX}
theorem c_bi {x : Str} {u : Value} {sp : Spec} (hm : B.mg x = none) (hn : x ≠ "__name__") (hd : (x == ("__debug__" : Str)) = false) (hu : bootBuiltins x = some u) (hk : (∃ id, u = .builtin id) ∨ ∃ id, u = .type id)
    (hi : ∀ ds μ Q E, sp ds μ Q E → sp ds μ Q (fun _ _ => False))
    (h : ∀ X : Cx, Cx.bs X = B → X.calm = true → Room k X.A → ∀ (pins : List (Addr × Obj)) (s : Shared) (σ : L2.St) (S : Ss) (us : List Value) (vs : List V) (ds : List D) (QM : Post) (Q : VK), L2.Inv X pins σ S.H s → Vals vs us → Rl (wd X T cls) S → Reps X.K S.vw ds vs → sp ds S.μ QM (fun _ _ => False) → After (wd X T cls) S QM Q →
      wpAny (model X.prog X.w) X.A (call u us) (EP X pins σ Q) X.xe s) : CalC B T cls k x sp := by
  refine .inr ⟨⟨hm, hn, hd, u, hu, hk, fun X hB hc hr => ?_⟩, hi⟩
  intro pins s σ H vs us Q I r hh
  obtain ⟨S, ds, QM, rfl, R, rr, hw, hq⟩ := hh
  exact h X hB hc hr pins s σ S us vs ds QM Q I r R rr hw hq
/-! len -/
def spLen : Spec := fun ds μ Q _ => match ds with
  | [.str s] => s.length ≤ sizeLine ∧ Q (.int s.length) μ
  | [d] => match asSeq d μ with
    | some xs => Q (.int xs.length) μ
    | none => False
  | _ => False
theorem c_len (hm : B.mg "len" = none) : CalC B T cls k "len" spLen := by
  refine c_bi hm (by decide) (by decide) (show bootBuiltins "len" = some (.builtin "len") by decide +kernel) (.inl ⟨_, rfl⟩) (fun _ _ _ _ h => h) fun X hB hc hr pins s σ S us vs ds QM Q I r R rr hw hq => ?_
  unfold spLen at hw
  split at hw
  · rename_i z
    obtain ⟨x, rfl, q1⟩ := Reps.inv1 rr
    exact call_len_str pins s σ S.H _ us Q I r ⟨z, by rw [show x = _ from q1], hw.1, hq S (.int _) _ (.refl _) R rfl hw.2⟩
  · rename_i d hd
    split at hw
    · rename_i xs e
      obtain ⟨x, rfl, q1⟩ := Reps.inv1 rr
      obtain ⟨a, ys, rfl, g, r2⟩ := asSeq_rep R q1 e
      refine call_len_seq pins s σ S.H _ us Q I r ⟨a, ys, rfl, g, ?_⟩
      rw [r2.length]
      exact hq S (.int _) _ (.refl _) R rfl hw
    · exact hw.elim
  · exact hw.elim
/-! int -/
def spInt : Spec := fun ds μ Q _ => match ds with
  | [.int i] => Q (.int i) μ
  | [.bl b] => Q (.int (if b then 1 else 0)) μ
  | [.str s] => ∃ n, PySem.intText? s = some n ∧ s.length ≤ 640 ∧ Q (.int n) μ
  | _ => False
theorem c_int (hm : B.mg "int" = none) : CalC B T cls k "int" spInt := by
  refine c_bi hm (by decide) (by decide) (show bootBuiltins "int" = some (.type "int") by decide +kernel) (.inr ⟨_, rfl⟩) (fun _ _ _ _ h => h) fun X hB hc hr pins s σ S us vs ds QM Q I r R rr hw hq => ?_
  unfold spInt at hw
  split at hw
  · rename_i z
    obtain ⟨x, rfl, q1⟩ := Reps.inv1 rr
    exact call_int1 pins s σ S.H _ us Q I r (.inl ⟨z, by rw [show x = _ from q1], hq S (.int _) _ (.refl _) R rfl hw⟩)
  · rename_i z
    obtain ⟨x, rfl, q1⟩ := Reps.inv1 rr
    exact call_int1 pins s σ S.H _ us Q I r (.inr ⟨z, by rw [show x = _ from q1], hq S (.int _) _ (.refl _) R rfl hw⟩)
  · rename_i z
    obtain ⟨x, rfl, q1⟩ := Reps.inv1 rr
    obtain ⟨n, h1, h2, h3⟩ := hw
    exact call_int_str pins s σ S.H _ us Q I r ⟨z, n, by rw [show x = _ from q1], h1, h2, hq S (.int _) _ (.refl _) R rfl h3⟩
  · exact hw.elim
/-! str -/
def spStr : Spec := fun ds μ Q _ => match ds with
  | [.int i] => i.natAbs.log2 < 1920 ∧ Q (.str (toString i)) μ
  | [.str s] => Q (.str s) μ
  | _ => False
theorem c_str (hm : B.mg "str" = none) : CalC B T cls k "str" spStr := by
  refine c_bi hm (by decide) (by decide) (show bootBuiltins "str" = some (.type "str") by decide +kernel) (.inr ⟨_, rfl⟩) (fun _ _ _ _ h => h) fun X hB hc hr pins s σ S us vs ds QM Q I r R rr hw hq => ?_
  unfold spStr at hw
  split at hw
  · rename_i z
    obtain ⟨x, rfl, q1⟩ := Reps.inv1 rr
    exact call_str_int pins s σ S.H _ us Q I r ⟨z, by rw [show x = _ from q1], hw.1, hq S (.str _) _ (.refl _) R rfl hw.2⟩
  · rename_i z
    obtain ⟨x, rfl, q1⟩ := Reps.inv1 rr
    exact SkE.call_str_str pins s σ S.H _ us Q I r ⟨z, by rw [show x = _ from q1], hq S (.str _) _ (.refl _) R rfl hw⟩
  · exact hw.elim
/-! isinstance -/
def tyName (d : D) (μ : Sto) : Option String := match d with
  | .non => some "NoneType"
  | .bl _ => some "bool"
  | .int _ => some "int"
  | .str _ => some "str"
  | .tup _ => some "tuple"
  | .lst _ => some "list"
  | .scr _ => some "list"
  | .ty _ => none
  | .obj j => match μ.cell j with
    | some (.lst _) => some "list"
    | some (.dct _) => some "dict"
    | _ => none
def isB (a b : String) : Bool := a == b || (a == "bool" && b == "int")
def tys : List String := ["NoneType", "bool", "int", "str", "tuple", "list", "dict"]
theorem isB_ok : ∀ a ∈ tys, ∀ b ∈ tys, kitB a b = some (isB a b) := by decide +kernel
theorem tyName_mem {d : D} {μ : Sto} {a : String} (h : tyName d μ = some a) : a ∈ tys := by
  unfold tyName at h
  split at h <;> first | (cases h; decide) | skip
  · cases h
  · split at h <;> first | (cases h; decide) | cases h
theorem tyx_of {S : Ss} {d : D} {v : V} {a : String} (R : Rl (wd X T cls) S) (r : Rep X.K S.vw d v) (h : tyName d S.μ = some a) : TyX X.K S.H v (.type a) := by
  have tupl : ∀ {p : Addr} {xs : List V}, SqT X.K S.H p xs → TyX X.K S.H (.ref p) (.type "tuple") := by
    rintro p xs ((e | ⟨o, e⟩) | ⟨o, its, n, e, c, _⟩)
    · exact .base (.tup e)
    · exact .fTuple e
    · exact .kTuple e c
  have lstl : ∀ {p : Addr} {xs : List V}, SqL X.K S.H p xs → TyX X.K S.H (.ref p) (.type "list") := by
    rintro p xs ((e | ⟨o, e⟩) | ⟨o, its, n, e, c, _⟩)
    · exact .base (.lst e)
    · exact .base (.frz e)
    · exact .kList e c
  cases d with
  | non => cases h; rw [show v = _ from r]; exact .base .non
  | bl b => cases h; rw [show v = _ from r]; exact .base (.bl b)
  | int i => cases h; rw [show v = _ from r]; exact .base (.int i)
  | str i => cases h; rw [show v = _ from r]; exact .base (.str i)
  | ty n => cases h
  | tup ds =>
    cases h
    obtain ⟨p, xs, rfl, g, _⟩ := r
    exact tupl (hid_ext.sqt g)
  | lst ds =>
    cases h
    obtain ⟨p, xs, rfl, g, _⟩ := r
    exact .base (.lst (hid_ex g))
  | scr ds =>
    cases h
    obtain ⟨p, xs, rfl, g, _⟩ := r
    exact lstl (hid_ext.sql g)
  | obj j =>
    obtain ⟨_, rfl⟩ := r
    unfold tyName at h
    dsimp only at h
    split at h
    · rename_i c hc
      cases h
      obtain ⟨xs, e1, _⟩ := R.ok _ _ hc
      exact .base (.lst e1)
    · rename_i c hc
      cases h
      obtain ⟨xs, e1, _⟩ := R.ok _ _ hc
      exact .base (.dK e1)
    · cases h
def tysOf : List D → Option (List String)
  | [] => some []
  | .ty n :: r => (tysOf r).map fun ns => n :: ns
  | _ => none
theorem tysOf_ok : ∀ {ts : List D} {ns : List String}, tysOf ts = some ns → ts = ns.map .ty
  | [], ns, h => by cases h; rfl
  | d :: r, ns, h => by
    cases d with
    | ty n =>
      have h : (tysOf r).map (fun ns => n :: ns) = some ns := h
      cases e : tysOf r with
      | none => rw [e] at h; cases h
      | some ms =>
        rw [e] at h
        cases h
        rw [tysOf_ok e]
        rfl
    | _ => cases (show none = some ns from h)
def spIsi : Spec := fun ds μ Q _ => match ds with
  | [d, .ty n] => match tyName d μ with
    | some a => n ∈ tys ∧ Q (.bl (isB a n)) μ
    | none => False
  | [d, .tup ts] => match tyName d μ, tysOf ts with
    | some a, some ns => (ns.all fun n => decide (n ∈ tys)) = true ∧ Q (.bl (ns.any fun n => isB a n)) μ
    | _, _ => False
  | _ => False
theorem kit_all {K : PySem.W.Frag} {a : String} (ha : a ∈ tys) : ∀ {ns : List String}, (∀ n ∈ ns, n ∈ tys) → PySem.W.kitAny K (.type a) (ns.map .type) = some (ns.any fun n => isB a n)
  | [], _ => rfl
  | n :: ns, h => by
    have h1 : PySem.W.kitOne K (.type a) (.type n) = some (isB a n) := kit_ty (isB_ok a ha n (h n List.mem_cons_self))
    refine kitAny_cons h1 (fun hf => ?_) (fun ht => ?_)
    · rw [List.any_cons, hf, Bool.false_or]
      exact kit_all ha fun m hm => h m (List.mem_cons_of_mem _ hm)
    · rw [List.any_cons, ht, Bool.true_or]
theorem reps_tys {K : PySem.W.Frag} {w : Vw} : ∀ {ns : List String} {xs : List V}, Reps K w (ns.map .ty) xs → Paired ClsV xs (ns.map Value.type)
  | [], _, h => by
    have h : _ = [] := h
    subst h
    exact .nil
  | n :: ns, _, ⟨x, r, e, h, t⟩ => by
    have h : x = .ty n := h
    subst e h
    exact .cons (.ty n) (reps_tys t)
theorem c_isi (hm : B.mg "isinstance" = none) : CalC B T cls k "isinstance" spIsi := by
  refine c_bi hm (by decide) (by decide) (show bootBuiltins "isinstance" = some (.builtin "isinstance") by decide +kernel) (.inl ⟨_, rfl⟩) (fun _ _ _ _ h => h) fun X hB hc hr pins s σ S us vs ds QM Q I r R rr hw hq => ?_
  unfold spIsi at hw
  split at hw
  · rename_i d n
    split at hw
    · rename_i a ea
      obtain ⟨x, y, rfl, q1, q2⟩ := Reps.inv2 rr
      have q2 : y = .ty n := q2
      subst q2
      exact call_isi pins s σ S.H _ us Q I r ⟨x, _, _, _, _, rfl, .ty n, tyx_of R q1 ea, kit_ty (isB_ok a (tyName_mem ea) n hw.1), hq S (.bl _) _ (.refl _) R rfl hw.2⟩
    · exact hw.elim
  · rename_i d ts
    split at hw
    · rename_i a ns ea en
      have en := tysOf_ok en
      subst en
      obtain ⟨hn, hw⟩ := hw
      have hn : ∀ n ∈ ns, n ∈ tys := fun n h => of_decide_eq_true (List.all_eq_true.mp hn n h)
      obtain ⟨x, y, rfl, q1, p, xs, rfl, g, q3⟩ := Reps.inv2 rr
      have g := hid_ext.sqt g
      obtain ⟨u1, u2, rfl, r1, r2⟩ := vals2 r
      cases (show u2 = Value.ref p from r2)
      obtain ⟨P, Z, pz, hx⟩ := kit_of I r1 (tyx_of R q1 ea)
      obtain ⟨its, rv, ⟨o, h1, h2, n, h3⟩, _⟩ := I.tuple g
      have e3 := ClsV.all (reps_tys q3) rv
      subst e3
      obtain ⟨oc, od, dt, sl⟩ := o
      simp only at h2 h3
      subst h2 h3
      exact PySem.W.kia_tup Z I.kIn pz h1 (kit_all (tyName_mem ea) hn) hx fun tk => ⟨.bl _, S.H, I.tok tk, rfl, hq S (.bl _) _ (.refl _) R rfl hw⟩
    · exact hw.elim
  · exact hw.elim
/-! max -/
def spMax : Spec := fun ds μ Q _ => match ds with
  | [d] => ∃ ns : List Int, asL d μ = some (ns.map .int) ∧ ns ≠ [] ∧ Q (.int (maxI 0 ns)) μ
  | _ => False
theorem c_max (hm : B.mg "max" = none) : CalC B T cls k "max" spMax := by
  refine c_bi hm (by decide) (by decide) (show bootBuiltins "max" = some (.builtin "max") by decide +kernel) (.inl ⟨_, rfl⟩) (fun _ _ _ _ h => h) fun X hB hc hr pins s σ S us vs ds QM Q I r R rr hw hq => ?_
  unfold spMax at hw
  split at hw
  · rename_i d
    obtain ⟨ns, e1, hne, q⟩ := hw
    obtain ⟨x, rfl, q1⟩ := Reps.inv1 rr
    obtain ⟨a, xs, rfl, hs, r2⟩ := asL_rep R q1 e1
    rw [reps_ints r2] at hs
    refine cr_max hc pins s σ S.H _ us Q I r ⟨a, ns, rfl, hs, List.length_pos_iff.mpr hne, fun m h1 h2 => ?_⟩
    rw [maxI_of (z := 0) (.inr ⟨h1, h2⟩)]
    exact hq S (.int _) _ (.refl _) R rfl q
  · exact hw.elim
/-! tuple, list -/
def spTup : Spec := fun ds μ Q _ => match ds with
  | [d] => match asSeq d μ with
    | some xs => Q (.tup xs) μ
    | none => False
  | _ => False
theorem c_tup (hm : B.mg "tuple" = none) : CalC B T cls k "tuple" spTup := by
  refine c_bi hm (by decide) (by decide) (show bootBuiltins "tuple" = some (.type "tuple") by decide +kernel) (.inr ⟨_, rfl⟩) (fun _ _ _ _ h => h) fun X hB hc hr pins s σ S us vs ds QM Q I r R rr hw hq => ?_
  unfold spTup at hw
  split at hw
  · rename_i d
    split at hw
    · rename_i xs e
      obtain ⟨x, rfl, q1⟩ := Reps.inv1 rr
      unfold asSeq at e
      split at e
      · cases e
        obtain ⟨a, ys, rfl, g, r2⟩ := q1
        exact call_tuple_of pins s σ S.H _ us Q I r ⟨a, ys, rfl, .inr ⟨hid_ext.sqt g, hq S (.tup _) _ (.refl _) R ⟨a, ys, rfl, g, r2⟩ hw⟩⟩
      · obtain ⟨a, ys, rfl, g, r2⟩ := asL_rep R q1 e
        exact call_tuple_of pins s σ S.H _ us Q I r ⟨a, ys, rfl, .inl ⟨g, fresh_tup R r2 hw hq⟩⟩
    · exact hw.elim
  · exact hw.elim
/-- a list that stands for ever -/
def spLst : Spec := fun ds μ Q _ => match ds with
  | [d] => match asSeq d μ with
    | some xs => Q (.lst xs) μ
    | none => False
  | _ => False
/-- a list that is changed -/
def spLstM : Spec := fun ds μ Q _ => match ds with
  | [d] => match asSeq d μ with
    | some xs => Q (.obj μ.next) (μ.new (.lst xs))
    | none => False
  | _ => False
theorem new_lst {S : Ss} {QM : Post} {Q : VK} {ds : List D} {xs : List V} (R : Rl (wd X T cls) S) (r : Reps X.K S.vw ds xs) (hb : QM (.obj S.μ.next) (S.μ.new (.lst ds))) (hq : After (wd X T cls) S QM Q) : ∀ p, S.H p = none → Q (.ref p) (upd S.H p (.lst xs)) := fun p hp => by
  obtain ⟨l, R2⟩ := R.new (c := .lst ds) (H' := upd S.H p (.lst xs)) hp (fun a ha _ => upd_ne ha) (Ext.of_ex fun a o e => (upd_ne (ne_of_none (hid_ex e) hp)).trans (hid_ex e)) ⟨xs, upd_same, Reps.mono (w := S.vw) (w' := ⟨hid S, newρ S.ρ S.μ.next p, S.μ.next + 1⟩) ⟨Ext.refl _, fun k hk => newρ_ne (Nat.ne_of_lt hk), Nat.le_succ _⟩ r⟩
  exact hq _ (.obj S.μ.next) (.ref p) l R2 ⟨Nat.lt_succ_self _, by show V.ref p = V.ref (newρ S.ρ S.μ.next p S.μ.next); rw [newρ_same]⟩ hb
theorem c_lst (hm : B.mg "list" = none) : CalC B T cls k "list" spLst := by
  refine c_bi hm (by decide) (by decide) (show bootBuiltins "list" = some (.type "list") by decide +kernel) (.inr ⟨_, rfl⟩) (fun _ _ _ _ h => h) fun X hB hc hr pins s σ S us vs ds QM Q I r R rr hw hq => ?_
  unfold spLst at hw
  split at hw
  · rename_i d
    split at hw
    · rename_i xs e
      obtain ⟨x, rfl, q1⟩ := Reps.inv1 rr
      obtain ⟨a, ys, rfl, g, r2⟩ := asSeq_rep R q1 e
      exact call_list_of pins s σ S.H _ us Q I r ⟨a, ys, rfl, g, fresh_lst R r2 hw hq⟩
    · exact hw.elim
  · exact hw.elim
theorem c_lstM (hm : B.mg "list" = none) : CalC B T cls k "list" spLstM := by
  refine c_bi hm (by decide) (by decide) (show bootBuiltins "list" = some (.type "list") by decide +kernel) (.inr ⟨_, rfl⟩) (fun _ _ _ _ h => h) fun X hB hc hr pins s σ S us vs ds QM Q I r R rr hw hq => ?_
  unfold spLstM at hw
  split at hw
  · rename_i d
    split at hw
    · rename_i xs e
      obtain ⟨x, rfl, q1⟩ := Reps.inv1 rr
      obtain ⟨a, ys, rfl, g, r2⟩ := asSeq_rep R q1 e
      exact call_list_of pins s σ S.H _ us Q I r ⟨a, ys, rfl, g, new_lst R r2 hw hq⟩
    · exact hw.elim
  · exact hw.elim
/-! methods -/
theorem m_mk {Ty id : String} {m : Str} {sp : Spec} {X0 : Prop} (pa : PlainAttrs Ty) (sl : Slot Ty m id) (ht : typeOf (.builtin id) = pure (.type "method_descriptor"))
    (h : ∀ X : Cx, Cx.bs X = B → X.calm = true → Room k X.A → ∀ (pins : List (Addr × Obj)) (s : Shared) (σ : L2.St) (S : Ss) (x : V) (v : Value) (us : List Value) (vs : List V) (d : D) (ds : List D) (QM : Post) (Q : VK), L2.Inv X pins σ S.H s → RelV x v → Vals vs us → Rl (wd X T cls) S → Rep X.K S.vw d x → Reps X.K S.vw ds vs → sp (d :: ds) S.μ QM (fun _ _ => False) → After (wd X T cls) S QM Q →
      wpAny (model X.prog X.w) X.A (call (.builtin id) (v :: us)) (EP X pins σ Q) X.xe s) : MtC B T cls k Ty id m sp := by
  refine ⟨pa, sl, ht, fun X hB hc hr => ?_⟩
  intro pins s σ H x vs v us Q I rx r hh
  obtain ⟨S, d, ds, QM, rfl, R, rd, rr, hw, hq⟩ := hh
  exact h X hB hc hr pins s σ S x v us vs d ds QM Q I rx r R rd rr hw hq
/-- sep.join(list of texts) -/
def spJoin : Spec := fun ds μ Q _ => match ds with
  | [.str a, d] => ∃ ys : List Str, asSeq d μ = some (ys.map .str) ∧ (ys.map (·.length)).sum + ys.length * a.length ≤ 16777216 ∧ Q (.str (Txt.join a ys)) μ
  | _ => False
theorem reps_strs {K : PySem.W.Frag} {w : Vw} : ∀ {ns : List Str} {xs : List V}, Reps K w (ns.map .str) xs → xs = ns.map V.str
  | [], _, h => h
  | n :: ns, _, ⟨x, r, e, h, t⟩ => by
    have h : x = .str n := h
    rw [e, h, reps_strs t]
    rfl
theorem m_join : MtC B T cls k "str" "str.join" "join" spJoin := by
  refine m_mk (X0 := True) PySem.F.plainAttrs_str PySem.F.slot_str_join PySem.F.type_str_join fun X hB hc hr pins s σ S x v us vs d ds QM Q I rx r R rd rr hw hq => ?_
  unfold spJoin at hw
  split at hw
  · rename_i a d' hds
    cases hds
    obtain ⟨ys, e, hz, q⟩ := hw
    obtain ⟨y, rfl, q1⟩ := Reps.inv1 rr
    obtain ⟨p, xs, rfl, g, r2⟩ := asSeq_rep R q1 e
    rw [reps_strs r2] at g
    exact mt_join pins s σ S.H x _ v us Q I rx r ⟨a, p, ys, rd, rfl, g, hz, hq S (.str _) _ (.refl _) R rfl q⟩
  · exact hw.elim
/-- s.split(sep) -/
def spSplit : Spec := fun ds μ Q _ => match ds with
  | [.str a, .str b] => (b.length == 0) = false ∧ a.length + 2 ≤ sizeLine ∧ Q (.lst ((Txt.split a b).map .str)) μ
  | _ => False
theorem strs_reps {K : PySem.W.Frag} {w : Vw} : ∀ {ns : List Str}, Reps K w (ns.map .str) (ns.map V.str)
  | [] => rfl
  | n :: ns => ⟨.str n, _, rfl, rfl, strs_reps⟩
theorem m_split : MtC B T cls k "str" "str.split" "split" spSplit := by
  refine m_mk (X0 := True) PySem.F.plainAttrs_str PySem.F.slot_str_split PySem.F.type_str_split fun X hB hc hr pins s σ S x v us vs d ds QM Q I rx r R rd rr hw hq => ?_
  unfold spSplit at hw
  split at hw
  · rename_i a b hds
    cases hds
    obtain ⟨h1, h2, q⟩ := hw
    obtain ⟨y, rfl, q1⟩ := Reps.inv1 rr
    exact mt_split pins s σ S.H x _ v us Q I rx r ⟨a, b, rd, by rw [show y = _ from q1], h1, h2, fresh_lst R strs_reps q hq⟩
  · exact hw.elim
/-- s.find(t, i) -/
def spFind : Spec := fun ds μ Q _ => match ds with
  | [.str a, .str b, .int i] => Q (.int (Txt.find3 a b i)) μ
  | _ => False
theorem m_find : MtC B T cls k "str" "str.find" "find" spFind := by
  refine m_mk (X0 := True) PySem.F.plainAttrs_str PySem.F.slot_str_find PySem.F.type_str_find fun X hB hc hr pins s σ S x v us vs d ds QM Q I rx r R rd rr hw hq => ?_
  unfold spFind at hw
  split at hw
  · rename_i a b i hds
    cases hds
    obtain ⟨y, z, rfl, q1, q2⟩ := Reps.inv2 rr
    exact mt_find3 pins s σ S.H x _ v us Q I rx r ⟨a, b, i, rd, by rw [show y = _ from q1, show z = _ from q2], hq S (.int _) _ (.refl _) R rfl hw⟩
  · exact hw.elim
/-- l.append(x) -/
def spApp : Spec := fun ds μ Q _ => match ds with
  | [.obj j, d] => match μ.cell j with
    | some (.lst xs) => xs.length < sizeLine ∧ Q .non (μ.put j (.lst (xs ++ [d])))
    | _ => False
  | _ => False
theorem m_app : MtC B T cls k "list" "list.append" "append" spApp := by
  refine m_mk (X0 := True) PySem.F.plainAttrs_list PySem.F.slot_list_append PySem.F.type_list_append fun X hB hc hr pins s σ S x v us vs d ds QM Q I rx r R rd rr hw hq => ?_
  unfold spApp at hw
  split at hw
  · rename_i j d' hds
    cases hds
    split at hw
    · rename_i xs e
      obtain ⟨y, rfl, q1⟩ := Reps.inv1 rr
      obtain ⟨_, rfl⟩ := rd
      obtain ⟨ys, e1, r2⟩ := R.ok _ _ e
      obtain ⟨l, R2⟩ := R.put (k := j) (c' := .lst (xs ++ [d'])) (o := .lst (ys ++ [y])) e ⟨_, upd_same, r2.append (Reps.one q1)⟩
      exact mt_append pins s σ S.H _ _ v us Q I rx r ⟨S.ρ j, ys, y, rfl, rfl, e1, by rw [r2.length]; exact hw.1, hq _ .non .non l R2 rfl hw.2⟩
    · exact hw.elim
  · exact hw.elim
end
end M
end

section
set_option Elab.async false
set_option linter.all false
set_option maxRecDepth 100000
set_option maxHeartbeats 4000000
set_option autoImplicit false
/-! texts by their code points; what the proofs of the defs share. -/
namespace M
open PySem PySem.Spec PyProof.Rows L2
open SX (S S_len S_cat)
theorem fin_same {μ : Sto} {Q : Post} {d : D} (hw : μ.wf) (ho : objB μ.next d = true) (h : Q d μ) : finP μ.next Q d μ :=
  ⟨μ, Nat.le_refl _, ⟨Nat.le_refl _, fun j c e => ⟨e, hw j c e⟩⟩, ho, h⟩
theorem part_self {μ : Sto} (hw : μ.wf) : μ.Part μ := ⟨Nat.le_refl _, fun j c e => ⟨e, hw j c e⟩⟩
theorem part_new {μ μ' : Sto} {c : Cell} (h : μ.Part μ') (hw : ∀ j d, μ.cell j = some d → j < μ'.next) : μ.Part (μ'.new c) :=
  ⟨Nat.le_succ_of_le h.nx, fun j d e => ⟨by rw [Sto.new_ne (Nat.ne_of_lt (hw j d e))]; exact (h.sub j d e).1, (h.sub j d e).2⟩⟩
theorem fin_part {μ μ' : Sto} {Q : Post} {d : D} (hp : μ.Part μ') (ho : objB μ.next d = true) (h : Q d μ) : finP μ.next Q d μ' := ⟨μ, Nat.le_refl _, hp, ho, h⟩
theorem of_S (x : Str) : ∃ l, x = S l := ⟨x.cps.toList, (SX.S_tl x).symm⟩
theorem S_eq {a b : List Nat} : S a = S b ↔ a = b := ⟨SX.S_inj, fun h => by rw [h]⟩
theorem S_cps (l : List Nat) : (S l).cps.toList = l := rfl
theorem deq_S (a b : List Nat) : deq (.str (S a)) (.str (S b)) = decide (a = b) := by
  unfold deq pyOf PyData.eqv
  first | exact SX.S_beq_eq | (simp only [SX.S_beq_eq])
theorem eqOk_str (x : Str) : eqOk (.str x) = true := rfl
theorem eqOk_int (x : Int) : eqOk (.int x) = true := rfl
theorem eqOk_non : eqOk .non = true := rfl
theorem deq_int (a b : Int) : deq (.int a) (.int b) = decide (a = b) := by
  unfold deq pyOf PyData.eqv
  rw [Bool.eq_iff_iff]
  simp
theorem cut_01 {α : Type} (l : List α) : cutD l none (some 1) = l.take 1 := by
  unfold cutD
  rw [show HT.sIx l.length 0 none = 0 from rfl, show HT.sIx l.length l.length (some 1) = min 1 l.length from HT.sIx_nat l.length l.length 1]
  rw [List.drop_zero, Nat.sub_zero]
  cases l <;> simp
theorem cut_1 {α : Type} (l : List α) : cutD l (some 1) none = l.drop 1 := by
  unfold cutD
  rw [show HT.sIx l.length 0 (some 1) = min 1 l.length from HT.sIx_nat l.length 0 1, show HT.sIx l.length l.length none = l.length from rfl]
  cases l <;> simp
theorem cut_from {α : Type} (l : List α) (n : Nat) : cutD l (some (n : Int)) none = l.drop n := by
  unfold cutD
  rw [show HT.sIx l.length 0 (some (n : Int)) = min n l.length from HT.sIx_nat l.length 0 n, show HT.sIx l.length l.length none = l.length from rfl]
  by_cases h : n ≤ l.length
  · rw [Nat.min_eq_left h, List.take_of_length_le (by rw [List.length_drop]; omega)]
  · rw [Nat.min_eq_right (by omega), List.drop_of_length_le (Nat.le_refl _), List.drop_of_length_le (by omega), List.take_nil]
theorem cut_to {α : Type} (l : List α) (n : Nat) : cutD l none (some (n : Int)) = l.take n := by
  unfold cutD
  rw [show HT.sIx l.length 0 none = 0 from rfl, show HT.sIx l.length l.length (some (n : Int)) = min n l.length from HT.sIx_nat l.length l.length n]
  rw [List.drop_zero, Nat.sub_zero]
  by_cases h : n ≤ l.length
  · rw [Nat.min_eq_left h]
  · rw [Nat.min_eq_right (by omega), List.take_of_length_le (Nat.le_refl _), List.take_of_length_le (by omega)]
theorem cut_mid {α : Type} (l : List α) (m n : Nat) : cutD l (some (m : Int)) (some (n : Int)) = (l.take n).drop m := by
  unfold cutD
  rw [show HT.sIx l.length 0 (some (m : Int)) = min m l.length from HT.sIx_nat l.length 0 m, show HT.sIx l.length l.length (some (n : Int)) = min n l.length from HT.sIx_nat l.length l.length n]
  rw [List.drop_take]
  have e1 : List.drop (min m l.length) l = List.drop m l := by
    by_cases hm : m ≤ l.length
    · rw [Nat.min_eq_left hm]
    · rw [Nat.min_eq_right (show l.length ≤ m by omega), List.drop_of_length_le (Nat.le_refl _), List.drop_of_length_le (show l.length ≤ m by omega)]
  rw [e1]
  by_cases h : n - m ≤ l.length - m
  · congr 1
    omega
  · rw [List.take_of_length_le (show (List.drop m l).length ≤ min n l.length - min m l.length by rw [List.length_drop]; omega), List.take_of_length_le (show (List.drop m l).length ≤ n - m by rw [List.length_drop]; omega)]
/-- without the first and the last -/
theorem cut_in {α : Type} (l : List α) : cutD l (some 1) (some (-1)) = (l.drop 1).dropLast := by
  unfold cutD
  rw [show HT.sIx l.length 0 (some 1) = min 1 l.length from HT.sIx_nat l.length 0 1, show HT.sIx l.length l.length (some (-1)) = (-1 + (l.length : Int)).toNat from rfl]
  cases l with
  | nil => rfl
  | cons x r =>
    rw [List.length_cons, show min 1 (r.length + 1) = 1 by omega, show (-1 + ((r.length + 1 : Nat) : Int)).toNat = r.length by omega]
    rw [List.drop_one, List.tail_cons, List.dropLast_eq_take]
theorem atI_zero {α : Type} (x : α) (l : List α) : atI (x :: l) 0 = some x := by
  unfold atI ixN
  simp
theorem atI_nat' {α : Type} (l : List α) (n : Nat) : atI l (n : Int) = l[n]? := by
  unfold atI ixN
  rw [if_pos (by omega)]
  by_cases h : n < l.length
  · rw [if_pos (by omega)]
    rfl
  · rw [if_neg (by omega), List.getElem?_eq_none (by omega)]
    rfl
theorem atI_neg1 {α : Type} (l : List α) : atI l (-1) = l.getLast? := by
  unfold atI ixN
  rw [if_neg (by omega)]
  cases l with
  | nil => rfl
  | cons x r =>
    rw [if_pos (by rw [List.length_cons]; omega), List.getLast?_eq_getElem?]
    show (x :: r)[(-1 + ((x :: r).length : Int)).toNat]? = _
    congr 1
    rw [List.length_cons]
    omega
theorem strIn_one (c : Nat) (l : List Nat) : strIn (S [c]) (S l) = decide (c ∈ l) := rfl
theorem mem_cps (c : Nat) (l : List Nat) : (c ∈ (S l).cps) = (c ∈ l) := by simp
section
variable {μ : Sto} {x : Str} {i : Int} {b : Bool} {ds : List D} {k : Nat} {n : String}
theorem tn_str : tyName (.str x) μ = some "str" := rfl
theorem tn_int : tyName (.int i) μ = some "int" := rfl
theorem tn_bl : tyName (.bl b) μ = some "bool" := rfl
theorem tn_non : tyName .non μ = some "NoneType" := rfl
theorem tn_tup : tyName (.tup ds) μ = some "tuple" := rfl
theorem tn_lst : tyName (.lst ds) μ = some "list" := rfl
theorem tn_scr : tyName (.scr ds) μ = some "list" := rfl
theorem sq_tup : asSeq (.tup ds) μ = some ds := rfl
theorem sq_lst : asSeq (.lst ds) μ = some ds := rfl
theorem sq_scr : asSeq (.scr ds) μ = some ds := rfl
theorem sq_obj (h : μ.cell k = some (.lst ds)) : asSeq (.obj k) μ = some ds := by simp [asSeq, asL, h]
theorem sq_str : asSeq (.str x) μ = none := rfl
theorem sq_int : asSeq (.int i) μ = none := rfl
theorem sq_non : asSeq .non μ = none := rfl
theorem l_lst : asL (.lst ds) μ = some ds := rfl
theorem l_scr : asL (.scr ds) μ = some ds := rfl
theorem l_obj (h : μ.cell k = some (.lst ds)) : asL (.obj k) μ = some ds := by simp [asL, h]
theorem l_tup : asL (.tup ds) μ = none := rfl
theorem lm_lst : asLM (.lst ds) μ = some ds := rfl
theorem lm_obj (h : μ.cell k = some (.lst ds)) : asLM (.obj k) μ = some ds := by simp [asLM, h]
theorem lm_str : asLM (.str x) μ = none := rfl
theorem lm_int : asLM (.int i) μ = none := rfl
theorem lm_tup : asLM (.tup ds) μ = none := rfl
theorem lm_non : asLM .non μ = none := rfl
theorem lm_bl : asLM (.bl b) μ = none := rfl
theorem td_str : tyD n (.str x) μ = (n == "str") := rfl
theorem td_lst : tyD n (.lst ds) μ = (n == "list") := rfl
theorem td_obj (h : μ.cell k = some (.lst ds)) : tyD n (.obj k) μ = (n == "list") := by simp [tyD, h]
theorem td_dct {kvs : List (Key × D)} (h : μ.cell k = some (.dct kvs)) : tyD n (.obj k) μ = (n == "dict") := by simp [tyD, h]
end
theorem itD_of {d : D} {μ : Sto} {xs : List D} {K : IPost} (h : asSeq d μ = some xs) (hk : ∀ gd : Sto → Prop, gd μ → K xs gd μ) : itD d μ K := by
  unfold asSeq at h
  split at h
  · cases h; exact hk _ trivial
  · unfold asL at h
    split at h
    · cases h; exact hk _ trivial
    · cases h; exact hk _ trivial
    · rename_i k
      split at h
      · rename_i c hc
        cases h
        unfold itD
        simp only [hc]
        exact hk _ hc
      · cases h
    · cases h
/-- a comprehension that changes nothing -/
theorem loopC_pure {turn : D → Sto → (Option D → Sto → Prop) → Prop} {gd : Sto → Prop} {fin : List D → Sto → Prop} (f : D → Option D) {μ : Sto} (hg : gd μ) : ∀ {xs acc : List D}, (∀ x ∈ xs, ∀ N : Option D → Sto → Prop, N (f x) μ → turn x μ N) → acc.length + xs.length ≤ sizeLine → fin (acc ++ xs.filterMap f) μ → loopC turn gd fin xs acc μ
  | [], acc, _, _, hf => ⟨hg, by simpa using hf⟩
  | x :: r, acc, h, hl, hf => by
    rw [List.length_cons] at hl
    refine ⟨hg, h x List.mem_cons_self _ ?_⟩
    rw [List.filterMap_cons] at hf
    cases e : f x with
    | none =>
      rw [e] at hf
      exact loopC_pure f hg (fun y hy => h y (List.mem_cons_of_mem _ hy)) (by omega) hf
    | some y =>
      rw [e] at hf
      exact ⟨by omega, loopC_pure f hg (fun y hy => h y (List.mem_cons_of_mem _ hy)) (by rw [List.length_append, List.length_singleton]; omega) (by simpa using hf)⟩
/-- .. and takes every item -/
theorem loopC_map {turn : D → Sto → (Option D → Sto → Prop) → Prop} {gd : Sto → Prop} {fin : List D → Sto → Prop} (f : D → D) {μ : Sto} (hg : gd μ) {xs : List D} (h : ∀ x ∈ xs, ∀ N : Option D → Sto → Prop, N (some (f x)) μ → turn x μ N) (hl : xs.length ≤ sizeLine) (hf : fin (xs.map f) μ) : loopC turn gd fin xs [] μ :=
  loopC_pure (fun x => some (f x)) hg h (by simpa using hl) (by rw [List.nil_append, List.filterMap_eq_map']; exact hf)
theorem deq_str (x y : Str) : deq (.str x) (.str y) = decide (x = y) := by
  obtain ⟨a, rfl⟩ := of_S x
  obtain ⟨b, rfl⟩ := of_S y
  rw [deq_S, Bool.eq_iff_iff]
  simp
theorem two_le : 2 ≤ sizeLine := by rw [sizeLine_eq]; omega
theorem part_del {μ μ' : Sto} (hw : μ.wf) (h : μ.Part μ') {k : Nat} (hk : μ.next ≤ k) : μ.Part (μ'.del k) :=
  ⟨h.nx, fun j c e => ⟨by rw [Sto.del_ne (by have := (hw j c e).1; omega)]; exact (h.sub j c e).1, (h.sub j c e).2⟩⟩
theorem part_put {μ μ' : Sto} (hw : μ.wf) (h : μ.Part μ') {k : Nat} {c : Cell} (hk : μ.next ≤ k) : μ.Part (μ'.put k c) :=
  ⟨h.nx, fun j d e => ⟨by rw [Sto.put_ne (by have := (hw j d e).1; omega)]; exact (h.sub j d e).1, (h.sub j d e).2⟩⟩
theorem part_mk {μ μ' : Sto} (hw : μ.wf) (h : μ.Part μ') {c : Cell} : μ.Part (μ'.new c) :=
  part_new h fun j d e => Nat.lt_of_lt_of_le (hw j d e).1 h.nx
theorem part_nx {μ μ' : Sto} (h : μ.Part μ') : μ.next ≤ μ'.next := h.nx
/-- a while loop by an invariant; n turns at most -/
theorem whl_ind {t b : IR} {E : Env → XPost} {rt : Post} {F : Env → Sto → Prop} {xc : Nat → Env → Sto → Prop} (I : Nat → Env → Sto → Prop) (n : Nat) {δ : Env} {μ : Sto} (h : I n δ μ) (zero : ∀ δ μ, ¬ I 0 δ μ)
    (step : ∀ (n : Nat) (LW : Env → Sto → Prop), (∀ δ μ, I n δ μ → LW δ μ) → ∀ δ μ, I (n + 1) δ μ → wpT t δ μ (fun c μ' => if c = true then wpS b δ μ' ⟨LW, rt, F, LW, xc⟩ else F δ μ') (E δ)) :
    ∃ n, loopW (fun δ μ Q => wpT t δ μ Q (E δ)) (fun δ μ N => wpS b δ μ ⟨N, rt, F, N, xc⟩) F n δ μ := by
  refine ⟨n, ?_⟩
  induction n generalizing δ μ with
  | zero => exact (zero _ _ h).elim
  | succ n ih => exact step n _ (fun δ μ h => ih h) δ μ h
/-- a for loop by an invariant: i items done -/
theorem for_ind {g b : IR} {rt : Post} {F : Env → Sto → Prop} {xc : Nat → Env → Sto → Prop} {gd : Sto → Prop} (I : Nat → Env → Sto → Prop) {xs : List D} {δ : Env} {μ : Sto} (h : I 0 δ μ)
    (step : ∀ (i : Nat) (x : D) (LW : Env → Sto → Prop), xs[i]? = some x → (∀ δ μ, I (i + 1) δ μ → LW δ μ) → ∀ δ μ, I i δ μ → gd μ ∧ wpG g x δ μ fun δ' μ' => wpS b δ' μ' ⟨LW, rt, F, LW, xc⟩)
    (fin : ∀ δ μ, I xs.length δ μ → gd μ ∧ F δ μ) :
    loopF (fun x δ μ N => wpG g x δ μ fun δ' μ' => wpS b δ' μ' ⟨N, rt, F, N, xc⟩) gd F xs δ μ := by
  have : ∀ (ys : List D) (i : Nat) δ μ, xs.drop i = ys → i ≤ xs.length → I i δ μ → loopF (fun x δ μ N => wpG g x δ μ fun δ' μ' => wpS b δ' μ' ⟨N, rt, F, N, xc⟩) gd F ys δ μ := by
    intro ys
    induction ys with
    | nil =>
      intro i δ μ e hi h
      have : i = xs.length := by
        have := congrArg List.length e
        rw [List.length_drop, List.length_nil] at this
        omega
      subst this
      exact fin δ μ h
    | cons y ys ih =>
      intro i δ μ e hi h
      have hlt : i < xs.length := by
        have := congrArg List.length e
        rw [List.length_drop, List.length_cons] at this
        omega
      rw [List.drop_eq_getElem_cons hlt] at e
      injection e with e1 e2
      exact step i y _ (by rw [List.getElem?_eq_getElem hlt, e1]) (fun δ μ h => ih (i + 1) δ μ e2 (by omega) h) δ μ h
  exact this xs 0 δ μ rfl (Nat.zero_le _) h
theorem it_lst {ds : List D} {μ : Sto} {K : IPost} : itD (.lst ds) μ K = K ds (fun _ => True) μ := rfl
theorem it_tup {ds : List D} {μ : Sto} {K : IPost} : itD (.tup ds) μ K = K ds (fun _ => True) μ := rfl
theorem cut_2 {α : Type} (l : List α) : cutD l (some 2) none = l.drop 2 := cut_from l 2
theorem cut_02 {α : Type} (l : List α) : cutD l none (some 2) = l.take 2 := cut_to l 2
theorem maxI_in {z : Int} {ns : List Int} (lo hi : Int) (hz : lo ≤ z ∧ z ≤ hi) (h : ∀ n ∈ ns, lo ≤ n ∧ n ≤ hi) : lo ≤ maxI z ns ∧ maxI z ns ≤ hi := by
  cases ns with
  | nil => exact hz
  | cons n ns => exact h _ (foldl_max ns n).1
theorem atI_one {α : Type} (x y : α) (l : List α) : atI (x :: y :: l) 1 = some y := atI_nat' (x :: y :: l) 1
theorem for_gen {turn : D → Env → Sto → (Env → Sto → Prop) → Prop} {F : Env → Sto → Prop} {gd : Sto → Prop} (I : Nat → Env → Sto → Prop) {xs : List D} {δ : Env} {μ : Sto} (h : I 0 δ μ)
    (step : ∀ (i : Nat) (x : D) (LW : Env → Sto → Prop), xs[i]? = some x → (∀ δ μ, I (i + 1) δ μ → LW δ μ) → ∀ δ μ, I i δ μ → gd μ ∧ turn x δ μ LW)
    (fin : ∀ δ μ, I xs.length δ μ → gd μ ∧ F δ μ) : loopF turn gd F xs δ μ := by
  have : ∀ (ys : List D) (i : Nat) δ μ, xs.drop i = ys → i ≤ xs.length → I i δ μ → loopF turn gd F ys δ μ := by
    intro ys
    induction ys with
    | nil =>
      intro i δ μ e hi h
      have : i = xs.length := by
        have := congrArg List.length e
        rw [List.length_drop, List.length_nil] at this
        omega
      subst this
      exact fin δ μ h
    | cons y ys ih =>
      intro i δ μ e hi h
      have hlt : i < xs.length := by
        have := congrArg List.length e
        rw [List.length_drop, List.length_cons] at this
        omega
      rw [List.drop_eq_getElem_cons hlt] at e
      injection e with e1 e2
      exact step i y _ (by rw [List.getElem?_eq_getElem hlt, e1]) (fun δ μ h => ih (i + 1) δ μ e2 (by omega) h) δ μ h
  exact this xs 0 δ μ rfl (Nat.zero_le _) h
theorem intsD_len {lo : Int} {n : Nat} : (intsD lo n).length = n := by simp [intsD]
theorem intsD_at {lo : Int} {n i : Nat} {x : D} (h : (intsD lo n)[i]? = some x) : i < n ∧ x = .int (lo + i) := by
  have hi : i < n := by
    have := (List.getElem?_eq_some_iff.mp h).1
    rwa [intsD_len] at this
  rw [intsD_get hi] at h
  cases h
  exact ⟨hi, rfl⟩
theorem fmod_lt {a b : Int} (h : 0 < b) : 0 ≤ a.fmod b ∧ a.fmod b < b := by
  rw [Int.fmod_eq_emod_of_nonneg _ (Int.le_of_lt h)]
  exact ⟨Int.emod_nonneg _ (by omega), Int.emod_lt_of_pos _ h⟩
end M
end

section
set_option Elab.async false
set_option linter.all false
set_option maxRecDepth 100000
set_option maxHeartbeats 4000000
set_option autoImplicit false
/-! what the defs of the program's values and statements do, over code points. -/
namespace M
open PySem PySem.Spec PyProof.Rows L2
open SX (S S_len S_cat)
def lettersL : List Nat := ("abcdefghijklmnopqrstuvwxyz" : Str).cps.toList
def digitsL : List Nat := ("0123456789" : Str).cps.toList
def signsL : List Nat := (" !\"#$&'()*+,-./0123456789:;<=>?@ABCDEFGHIJKLMNOPQRSTUVWXYZ[\\]^_`abcdefghijklmnopqrstuvwxyz{|}~" : Str).cps.toList
def isName (l : List Nat) : Bool := decide (1 ≤ l.length) && decide (l.length ≤ 8) && l.all fun c => decide (c ∈ lettersL)
def isStrg (l : List Nat) : Bool := decide (l.length ≤ 200) && l.all fun c => decide (c ∈ signsL)
def isText (l : List Nat) : Bool := isStrg l && decide (l.length ≤ 40) && !decide (39 ∈ l)
/-- a text's length that len() takes -/
def small (l : List Nat) : Prop := l.length ≤ sizeLine
def spB (f : List Nat → Bool) : Spec := fun ds μ Q _ => match ds with
  | [.str x] => x.length ≤ sizeLine ∧ Q (.bl (f x.cps.toList)) μ
  | [d] => (tyName d μ).isSome = true ∧ Q (.bl false) μ
  | _ => False
def sp_is_name : Spec := spB isName
def sp_is_string : Spec := spB isStrg
def sp_is_text : Spec := spB isText
/-! parts -/
def fp : List Nat → List Nat
  | [] => []
  | c :: r => if c = 39 then (if 39 ∈ r then 39 :: (r.takeWhile (fun x => decide (x ≠ 39)) ++ [39]) else []) else (c :: r).takeWhile fun x => decide (x ≠ 32)
def sp_first_part : Spec := fun ds μ Q _ => match ds with
  | [.str x] => x.length + 2 ≤ sizeLine ∧ Q (.str (S (fp x.cps.toList))) μ
  | _ => False
def prs : Nat → List (List Nat) → List Nat → Option (List (List Nat))
  | 0, _, _ => none
  | _ + 1, acc, [] => some acc
  | n + 1, acc, c :: r => if c ≠ 32 ∨ fp r = [] then none else prs n (acc ++ [fp r]) (r.drop (fp r).length)
def partsOf (l : List Nat) : Option (List (List Nat)) := prs (l.length + 2) [] (32 :: l)
def strD (l : List Nat) : D := .str (S l)
def optL (o : Option (List (List Nat))) : D := match o with
  | none => .non
  | some ls => .lst (ls.map strD)
def sp_parts_of : Spec := fun ds μ Q _ => match ds with
  | [.str x] => x.length + 4 ≤ sizeLine ∧ Q (optL (partsOf x.cps.toList)) μ
  | _ => False
/-! terms -/
def digs (l : List Nat) : List Nat := if l.take 1 = [45] then l.drop 1 else l
def numOf (l : List Nat) : Option Int :=
  if ¬ (1 ≤ (digs l).length ∧ (digs l).length ≤ 10) ∨ ((digs l).all fun c => decide (c ∈ digitsL)) = false then none
  else if (digs l).head? = some 48 ∧ l ≠ [48] then none
  else
    let n : Int := (NumText.digitsVal (digs l) : Nat)
    let m : Int := if l.take 1 = [45] then -n else n
    if -2147483648 ≤ m ∧ m ≤ 2147483647 then some m else none
def optI (o : Option Int) : D := match o with
  | none => .non
  | some i => .int i
def sp_number_of : Spec := fun ds μ Q _ => match ds with
  | [.str x] => x.length ≤ sizeLine ∧ Q (optI (numOf x.cps.toList)) μ
  | _ => False
def parD (n : Int) : D := .tup [.str "parameter", .int n]
def txtD (l : List Nat) : D := .tup [.str "text", .str (S l)]
def termOf (l : List Nat) : D :=
  if l.take 1 = [39] then (if l.length > 1 ∧ l.getLast? = some 39 ∧ isText (l.drop 1).dropLast = true then txtD (l.drop 1).dropLast else .non)
  else if l.take 1 = [36] then (match l with
    | [_, c] => if c ∈ [49, 50, 51, 52] then parD ((c - 48 : Nat) : Int) else .non
    | _ => .non)
  else optI (numOf l)
def sp_term_of : Spec := fun ds μ Q _ => match ds with
  | [.str x] => x.length ≤ sizeLine ∧ Q (termOf x.cps.toList) μ
  | _ => False
/-! parameters: of items that are texts, numbers, pairs -/
def parN (d : D) : Option Int := match d with
  | .tup [.str k, .int n] => if k = "parameter" then some n else none
  | .lst [.str k, .int n] => if k = "parameter" then some n else none
  | _ => none
/-- an item of a statement -/
def isItem (d : D) : Bool := match d with
  | .str _ | .int _ => true
  | .tup [.str _, .int _] | .tup [.str _, .str _] => true
  | .lst [.str _, .int _] | .lst [.str _, .str _] => true
  | _ => false
/-- no text item of a pair says parameter -/
def okItem (d : D) : Bool := match d with
  | .str _ | .int _ => true
  | .tup [.str _, .int _] | .lst [.str _, .int _] => true
  | .tup [.str k, .str _] | .lst [.str k, .str _] => decide (k ≠ "parameter")
  | _ => false
def parNs (ds : List D) : List Int := ds.filterMap parN
def sp_parameter_numbers : Spec := fun ds μ Q _ => match ds with
  | [d] => ∃ xs, asSeq d μ = some xs ∧ xs.length < sizeLine ∧ xs.all okItem = true ∧ Q (.lst ((parNs xs).map .int)) μ
  | _ => False
def sp_parameters : Spec := fun ds μ Q _ => match ds with
  | [d] => ∃ xs, asSeq d μ = some xs ∧ xs.length < sizeLine ∧ xs.all okItem = true ∧ Q (.int (maxI 0 (parNs xs))) μ
  | _ => False
/-! statements -/
def tbl_FORMS : List (Str × D) := [("create", .tup [.int 1]), ("drop", .tup [.int 1]), ("put", .tup [.int 3]), ("delete", .tup [.int 2]), ("get", .tup [.int 2]), ("scan", .tup [.int 1, .int 3]), ("total", .tup [.int 1]), ("begin", .tup [.int 0]), ("commit", .tup [.int 0]), ("rollback", .tup [.int 0]), ("save", .tup [.int 1]), ("undo", .tup [.int 1])]
def formOk (l : List Nat) (n : Nat) : Bool := match tbl_FORMS.lookup (S l) with
  | some (.tup ds) => ds.any fun d => match d with
    | .int i => decide (i = (n : Int))
    | _ => false
  | _ => false
def headOk (ps : List (List Nat)) : Bool := match ps with
  | [] => false
  | [w] => formOk w 0
  | w :: n :: r => formOk w (r.length + 1) && isName n
def stmtOf (ps : List (List Nat)) : Option (List D) :=
  if headOk ps = false then none
  else if ((ps.drop 2).map termOf).any isNonD = true then none
  else
    let r := (ps.take 2).map strD ++ (ps.drop 2).map termOf
    if ((intsD 1 (maxI 0 (parNs r)).toNat).all fun e => ((parNs r).map .int).any fun y => deq y e) = true then some r else none
def readS (l : List Nat) : Option (List D) := if isStrg l = true then (partsOf l).bind stmtOf else none
def optT (o : Option (List D)) : D := match o with
  | none => .non
  | some ds => .tup ds
def sp_read_statement : Spec := fun ds μ Q _ => match ds with
  | [.str x] => x.length + 8 ≤ sizeLine ∧ Q (optT (readS x.cps.toList)) μ
  | _ => False
def x_EndError : Nat := 0
def x_Unreadable : Nat := 1
def sp_parse_statement : Spec := fun ds μ Q X => match ds with
  | [.str x] => x.length + 8 ≤ sizeLine ∧ match readS x.cps.toList with
    | some ds => Q (.tup ds) μ
    | none => X x_Unreadable μ
  | _ => False
end M
end

section
set_option Elab.async false
set_option linter.all false
set_option maxRecDepth 100000
set_option maxHeartbeats 4000000
set_option autoImplicit false
namespace M
open PySem PySem.Spec PyProof.Rows L2
def N_is_name : List Str := ["value"]
def c_is_name : IR := .seq (.ifS (.tOr (.tNot (.tV (.cal "isinstance" spIsi (.cons (.var 0) (.cons (.bty "str") .nil))))) (.tOne (.tNot (.chn .LtE .LtE (.con (.int 1)) (.cal "len" spLen (.cons (.var 0) .nil)) (.glb "LONGEST_NAME" (.int 8)))))) (.seq (.ret (.con (.bl false))) (.nil)) (.nil)) (.seq (.ret (.nod (fAllS "LETTERS") (eAllS "abcdefghijklmnopqrstuvwxyz") (.cons (.var 0) .nil))) (.nil))
def N_is_string : List Str := ["value"]
def c_is_string : IR := .seq (.ret (.andV (.cal "isinstance" spIsi (.cons (.var 0) (.cons (.bty "str") .nil))) (.andV (.cmp .LtE (.cal "len" spLen (.cons (.var 0) .nil)) (.glb "LONGEST_STRING" (.int 200))) (.one (.nod (fAllS "SIGNS") (eAllS " !\"#$&'()*+,-./0123456789:;<=>?@ABCDEFGHIJKLMNOPQRSTUVWXYZ[\\]^_`abcdefghijklmnopqrstuvwxyz{|}~") (.cons (.var 0) .nil)))))) (.nil)
def N_is_text : List Str := ["value"]
def c_is_text : IR := .seq (.ret (.andV (.cal "is_string" sp_is_string (.cons (.var 0) .nil)) (.andV (.cmp .LtE (.cal "len" spLen (.cons (.var 0) .nil)) (.glb "LONGEST_TEXT" (.int 40))) (.one (.cmp .NotIn (.con (.str "'")) (.var 0)))))) (.nil)
def N_first_part : List Str := ["string", "end"]
def c_first_part : IR := .seq (.ifS (.cmp .NotEq (.sl (.var 0) (.nop) (.con (.int 1))) (.con (.str "'"))) (.seq (.ret (.ix (.bme "str" "str.split" "split" spSplit (.var 0) (.cons (.con (.str " ")) .nil)) (.con (.int 0)))) (.nil)) (.nil)) (.seq (.asg (.gN 1) (.bme "str" "str.find" "find" spFind (.var 0) (.cons (.con (.str "'")) (.cons (.con (.int 1)) .nil)))) (.seq (.ret (.sl (.var 0) (.nop) (.bin .Add (.var 1) (.con (.int 1))))) (.nil)))
def N_parts_of : List Str := ["string", "parts", "rest", "part"]
def t1_parts_of : IR := .cmp .NotEq (.var 2) (.con (.str ""))
def b1_parts_of : IR := .seq (.asg (.gN 3) (.cal "first_part" sp_first_part (.cons (.sl (.var 2) (.con (.int 1)) (.nop)) .nil))) (.seq (.ifS (.tOr (.cmp .NotEq (.ix (.var 2) (.con (.int 0))) (.con (.str " "))) (.tOne (.cmp .Eq (.var 3) (.con (.str ""))))) (.seq (.ret (.con (.non))) (.nil)) (.nil)) (.seq (.exp (.bme "list" "list.append" "append" spApp (.var 1) (.cons (.var 3) .nil))) (.seq (.asg (.gN 2) (.sl (.var 2) (.bin .Add (.con (.int 1)) (.cal "len" spLen (.cons (.var 3) .nil))) (.nop))) (.nil))))
def c_parts_of : IR := .seq (.asg (.gN 1) (.lstM (.nil))) (.seq (.asg (.gN 2) (.bin .Add (.con (.str " ")) (.var 0))) (.seq (.whl t1_parts_of b1_parts_of) (.seq (.ret (.frz (.var 1))) (.nil))))
def N_number_of : List Str := ["part", "digits", "number"]
def c_number_of : IR := .seq (.asg (.gN 1) (.ife (.cmp .Eq (.sl (.var 0) (.nop) (.con (.int 1))) (.con (.str "-"))) (.sl (.var 0) (.con (.int 1)) (.nop)) (.var 0))) (.seq (.ifS (.tOr (.tNot (.chn .LtE .LtE (.con (.int 1)) (.cal "len" spLen (.cons (.var 1) .nil)) (.con (.int 10)))) (.tOne (.tNot (.tV (.nod (fAllS "DIGITS") (eAllS "0123456789") (.cons (.var 1) .nil)))))) (.seq (.ret (.con (.non))) (.nil)) (.nil)) (.seq (.ifS (.tAnd (.cmp .Eq (.ix (.var 1) (.con (.int 0))) (.con (.str "0"))) (.tOne (.cmp .NotEq (.var 0) (.con (.str "0"))))) (.seq (.ret (.con (.non))) (.nil)) (.nil)) (.seq (.asg (.gN 2) (.cal "int" spInt (.cons (.var 1) .nil))) (.seq (.ifS (.cmp .Eq (.sl (.var 0) (.nop) (.con (.int 1))) (.con (.str "-"))) (.seq (.asg (.gN 2) (.neg (.var 2))) (.nil)) (.nil)) (.seq (.ret (.ife (.chn .LtE .LtE (.glb "LEAST" (.int (-2147483648))) (.var 2) (.glb "GREATEST" (.int 2147483647))) (.var 2) (.con (.non)))) (.nil))))))
def N_term_of : List Str := ["part", "text"]
def c_term_of : IR := .seq (.ifS (.cmp .Eq (.sl (.var 0) (.nop) (.con (.int 1))) (.con (.str "'"))) (.seq (.asg (.gN 1) (.sl (.var 0) (.con (.int 1)) (.neg (.con (.int 1))))) (.seq (.ret (.ife (.tAnd (.cmp .Gt (.cal "len" spLen (.cons (.var 0) .nil)) (.con (.int 1))) (.tAnd (.cmp .Eq (.ix (.var 0) (.neg (.con (.int 1)))) (.con (.str "'"))) (.tOne (.tV (.cal "is_text" sp_is_text (.cons (.var 1) .nil)))))) (.tupC (.cons (.con (.str "text")) (.cons (.var 1) .nil))) (.con (.non)))) (.nil))) (.nil)) (.seq (.ifS (.cmp .Eq (.sl (.var 0) (.nop) (.con (.int 1))) (.con (.str "$"))) (.seq (.ifS (.tOr (.cmp .NotEq (.cal "len" spLen (.cons (.var 0) .nil)) (.con (.int 2))) (.tOne (.cmp .NotIn (.ix (.var 0) (.con (.int 1))) (.sl (.glb "DIGITS" (.str "0123456789")) (.con (.int 1)) (.bin .Add (.glb "MOST_PARAMETERS" (.int 4)) (.con (.int 1))))))) (.seq (.ret (.con (.non))) (.nil)) (.nil)) (.seq (.ret (.tupC (.cons (.con (.str "parameter")) (.cons (.cal "int" spInt (.cons (.ix (.var 0) (.con (.int 1))) .nil)) .nil)))) (.nil))) (.nil)) (.seq (.ret (.cal "number_of" sp_number_of (.cons (.var 0) .nil))) (.nil)))
def N_parameter_numbers : List Str := ["parts", "part"]
def c_parameter_numbers : IR := .seq (.ret (.cpr [("part", 1)] (.gN 1) (.itV (.var 0)) (.tAnd (.tV (.cal "isinstance" spIsi (.cons (.var 1) (.cons (.tupC (.cons (.bty "tuple") (.cons (.bty "list") .nil))) .nil)))) (.tOne (.cmp .Eq (.ix (.var 1) (.con (.int 0))) (.con (.str "parameter"))))) (.ix (.var 1) (.con (.int 1))))) (.nil)
def N_parameters : List Str := ["parts"]
def c_parameters : IR := .seq (.ret (.nod (fMaxD 0) (eMaxD 0) (.cons (.cal "parameter_numbers" sp_parameter_numbers (.cons (.var 0) .nil)) .nil))) (.nil)
def N_read_statement : List Str := ["string", "parts", "terms", "result", "numbers", "part"]
def c_read_statement : IR := .seq (.asg (.gN 1) (.con (.non))) (.seq (.ifS (.tV (.cal "is_string" sp_is_string (.cons (.var 0) .nil))) (.seq (.asg (.gN 1) (.cal "parts_of" sp_parts_of (.cons (.var 0) .nil))) (.nil)) (.nil)) (.seq (.ifS (.tOr (.cmp .Is (.var 1) (.con (.non))) (.tOr (.tnd (fGin true "FORMS") (eGinT true tbl_FORMS) (.cons (.ix (.var 1) (.con (.int 0))) .nil)) (.tOne (.cmp .NotIn (.bin .Sub (.cal "len" spLen (.cons (.var 1) .nil)) (.con (.int 1))) (.nod (fGix "FORMS") (eGix tbl_FORMS) (.cons (.ix (.var 1) (.con (.int 0))) .nil)))))) (.seq (.ret (.con (.non))) (.nil)) (.nil)) (.seq (.ifS (.tAnd (.cmp .Gt (.cal "len" spLen (.cons (.var 1) .nil)) (.con (.int 1))) (.tOne (.tNot (.tV (.cal "is_name" sp_is_name (.cons (.ix (.var 1) (.con (.int 1))) .nil)))))) (.seq (.ret (.con (.non))) (.nil)) (.nil)) (.seq (.asc 2 (.cpr [("part", 5)] (.gN 5) (.itV (.sl (.var 1) (.con (.int 2)) (.nop))) (.nop) (.cal "term_of" sp_term_of (.cons (.var 5) .nil)))) (.seq (.ifS (.cmp .In (.con (.non)) (.var 2)) (.seq (.ret (.con (.non))) (.nil)) (.nil)) (.seq (.asg (.gN 3) (.cal "tuple" spTup (.cons (.bin .Add (.sl (.var 1) (.nop) (.con (.int 2))) (.var 2)) .nil))) (.seq (.asg (.gN 4) (.cal "parameter_numbers" sp_parameter_numbers (.cons (.var 3) .nil))) (.seq (.ifS (.tNot (.tV (.nod (fAllN 4) (eAllN 4) (.cons (.con (.int 1)) (.cons (.bin .Add (.cal "parameters" sp_parameters (.cons (.var 3) .nil)) (.con (.int 1))) .nil))))) (.seq (.ret (.con (.non))) (.nil)) (.nil)) (.seq (.ret (.var 3)) (.nil))))))))))
def N_parse_statement : List Str := ["string", "parts"]
def c_parse_statement : IR := .seq (.asg (.gN 1) (.cal "read_statement" sp_read_statement (.cons (.var 0) .nil))) (.seq (.ifS (.cmp .Is (.var 1) (.con (.non))) (.seq (.sno (fRse "Unreadable") (eRse x_Unreadable) .nil) (.nil)) (.nil)) (.seq (.ret (.var 1)) (.nil)))
end M
end

section
set_option Elab.async false
set_option linter.all false
set_option maxRecDepth 100000
set_option maxHeartbeats 4000000
set_option autoImplicit false
namespace M
open PySem PySem.Spec PyProof.Rows L2
open SX (S S_len S_cat)
/-- a term's want, unfolded -/
theorem objB_str {n : Nat} {x : Str} : objB n (.str x) = true := rfl
theorem objB_bl {n : Nat} {x : Bool} : objB n (.bl x) = true := rfl
theorem objB_int {n : Nat} {x : Int} : objB n (.int x) = true := rfl
theorem objB_non {n : Nat} : objB n .non = true := rfl
theorem tyName_isSome {d : D} {μ : Sto} (h : (tyName d μ).isSome = true) : ∃ a, tyName d μ = some a := Option.isSome_iff_exists.mp h
theorem tyName_str {d : D} {μ : Sto} (h : tyName d μ = some "str") : ∃ x, d = .str x := by
  unfold tyName at h
  split at h <;> first | (exact ⟨_, rfl⟩) | (simp at h; done) | skip
  split at h <;> simp at h
theorem w_is_name : ∀ ds μ Q QX, μ.wf → objBs μ.next ds = true → sp_is_name ds μ Q QX → ds.length = 1 ∧ wpS c_is_name (startE N_is_name ds) μ (outs μ.next Q QX) := by
  intro ds μ Q QX hw ho h
  unfold sp_is_name spB at h
  split at h
  · rename_i s
    obtain ⟨l, rfl⟩ := of_S s
    obtain ⟨h1, h2⟩ := h
    refine ⟨rfl, ?_⟩
    rw [S_cps] at h2
    have hq : finP μ.next Q (.bl (isName l)) μ := fin_same hw rfl h2
    simp [startE, wpS, wpT, wpE, wpA, wpI, wpG, wpGs, wpOpt, spLen, spIsi, spInt, spStr, spTup, spLst, spMax, spApp, spFind, spSplit, spJoin, spDget, tn_str, tn_int, tn_bl, tn_non, tn_tup, tn_lst, tn_scr, td_str, td_lst, isB, tys, truD, cmpD, binD, slD, ixD, outs, eAllS, eAllN, eMaxD, eGin, eGinT, eGix, eRse, eCal0, drf, sq_tup, sq_lst, sq_scr, sq_str, sq_int, sq_non, l_lst, l_scr, l_tup, lm_lst, lm_str, lm_int, lm_tup, lm_non, lm_bl, eqOk_str, eqOk_int, eqOk_non, deq_int, deq_str, two_le, isNonD, tysOf, c_is_name, N_is_name]
    refine ⟨by simpa using h1, ?_⟩
    rw [S_len] at *
    unfold isName at hq
    split
    · split
      · rename_i a b
        rw [show (decide (1 ≤ l.length) && decide (l.length ≤ 8) && l.all fun c => decide (c ∈ lettersL)) = false by simp; omega] at hq
        exact hq
      · rename_i a b
        rw [show (decide (1 ≤ l.length) && decide (l.length ≤ 8)) = true by simp; omega, Bool.true_and] at hq
        simpa [lettersL] using hq
    · rename_i a
      rw [show (decide (1 ≤ l.length) && decide (l.length ≤ 8) && l.all fun c => decide (c ∈ lettersL)) = false by simp; omega] at hq
      exact hq
  · rename_i d hd
    obtain ⟨h1, h2⟩ := h
    refine ⟨rfl, ?_⟩
    obtain ⟨a, ha⟩ := tyName_isSome h1
    have hne : a ≠ "str" := fun z => by
      subst z
      obtain ⟨x, rfl⟩ := tyName_str ha
      exact hd x rfl
    have hq : finP μ.next Q (.bl false) μ := fin_same hw rfl h2
    simp [startE, wpS, wpT, wpE, wpA, wpI, wpG, wpGs, wpOpt, spLen, spIsi, spInt, spStr, spTup, spLst, spMax, spApp, spFind, spSplit, spJoin, spDget, tn_str, tn_int, tn_bl, tn_non, tn_tup, tn_lst, tn_scr, td_str, td_lst, isB, tys, truD, cmpD, binD, slD, ixD, outs, eAllS, eAllN, eMaxD, eGin, eGinT, eGix, eRse, eCal0, drf, sq_tup, sq_lst, sq_scr, sq_str, sq_int, sq_non, l_lst, l_scr, l_tup, lm_lst, lm_str, lm_int, lm_tup, lm_non, lm_bl, eqOk_str, eqOk_int, eqOk_non, deq_int, deq_str, two_le, isNonD, tysOf, c_is_name, N_is_name, ha, hne, hq]
  · exact h.elim
end M
end

section
set_option Elab.async false
set_option linter.all false
set_option maxRecDepth 100000
set_option maxHeartbeats 4000000
set_option autoImplicit false
namespace M
open PySem PySem.Spec PyProof.Rows L2
open SX (S S_len S_cat)
theorem w_is_string : ∀ ds μ Q QX, μ.wf → objBs μ.next ds = true → sp_is_string ds μ Q QX → ds.length = 1 ∧ wpS c_is_string (startE N_is_string ds) μ (outs μ.next Q QX) := by
  intro ds μ Q QX hw ho h
  unfold sp_is_string spB at h
  split at h
  · rename_i s
    obtain ⟨l, rfl⟩ := of_S s
    obtain ⟨h1, h2⟩ := h
    refine ⟨rfl, ?_⟩
    rw [S_cps] at h2
    have hq : finP μ.next Q (.bl (isStrg l)) μ := fin_same hw rfl h2
    rw [S_len] at h1
    unfold isStrg at hq
    simp [startE, wpS, wpT, wpE, wpA, wpI, wpG, wpGs, wpOpt, spLen, spIsi, spInt, spStr, spTup, spLst, spMax, spApp, spFind, spSplit, spJoin, spDget, tn_str, tn_int, tn_bl, tn_non, tn_tup, tn_lst, tn_scr, td_str, td_lst, isB, tys, truD, cmpD, binD, slD, ixD, outs, eAllS, eAllN, eMaxD, eGin, eGinT, eGix, eRse, eCal0, drf, sq_tup, sq_lst, sq_scr, sq_str, sq_int, sq_non, l_lst, l_scr, l_tup, lm_lst, lm_str, lm_int, lm_tup, lm_non, lm_bl, eqOk_str, eqOk_int, eqOk_non, deq_int, deq_str, two_le, isNonD, tysOf, c_is_string, N_is_string, S_len, h1]
    by_cases h3 : l.length ≤ 200
    · rw [if_pos (by omega)]
      simpa [h3, signsL] using hq
    · rw [if_neg (by omega)]
      simpa [h3] using hq
  · rename_i d hd
    obtain ⟨h1, h2⟩ := h
    refine ⟨rfl, ?_⟩
    obtain ⟨a, ha⟩ := tyName_isSome h1
    have hne : a ≠ "str" := fun z => by
      subst z
      obtain ⟨x, rfl⟩ := tyName_str ha
      exact hd x rfl
    have hq : finP μ.next Q (.bl false) μ := fin_same hw rfl h2
    simp [startE, wpS, wpT, wpE, wpA, wpI, wpG, wpGs, wpOpt, spLen, spIsi, spInt, spStr, spTup, spLst, spMax, spApp, spFind, spSplit, spJoin, spDget, tn_str, tn_int, tn_bl, tn_non, tn_tup, tn_lst, tn_scr, td_str, td_lst, isB, tys, truD, cmpD, binD, slD, ixD, outs, eAllS, eAllN, eMaxD, eGin, eGinT, eGix, eRse, eCal0, drf, sq_tup, sq_lst, sq_scr, sq_str, sq_int, sq_non, l_lst, l_scr, l_tup, lm_lst, lm_str, lm_int, lm_tup, lm_non, lm_bl, eqOk_str, eqOk_int, eqOk_non, deq_int, deq_str, two_le, isNonD, tysOf, c_is_string, N_is_string, ha, hne, hq]
  · exact h.elim
theorem w_is_text : ∀ ds μ Q QX, μ.wf → objBs μ.next ds = true → sp_is_text ds μ Q QX → ds.length = 1 ∧ wpS c_is_text (startE N_is_text ds) μ (outs μ.next Q QX) := by
  intro ds μ Q QX hw ho h
  unfold sp_is_text spB at h
  split at h
  · rename_i s
    obtain ⟨l, rfl⟩ := of_S s
    obtain ⟨h1, h2⟩ := h
    refine ⟨rfl, ?_⟩
    rw [S_cps] at h2
    have hq : finP μ.next Q (.bl (isText l)) μ := fin_same hw rfl h2
    rw [S_len] at h1
    unfold isText at hq
    simp [startE, wpS, wpT, wpE, wpA, wpI, wpG, wpGs, wpOpt, spLen, spIsi, spInt, spStr, spTup, spLst, spMax, spApp, spFind, spSplit, spJoin, spDget, tn_str, tn_int, tn_bl, tn_non, tn_tup, tn_lst, tn_scr, td_str, td_lst, isB, tys, truD, cmpD, binD, slD, ixD, outs, eAllS, eAllN, eMaxD, eGin, eGinT, eGix, eRse, eCal0, drf, sq_tup, sq_lst, sq_scr, sq_str, sq_int, sq_non, l_lst, l_scr, l_tup, lm_lst, lm_str, lm_int, lm_tup, lm_non, lm_bl, eqOk_str, eqOk_int, eqOk_non, deq_int, deq_str, two_le, isNonD, tysOf, c_is_text, N_is_text, S_len, h1, sp_is_string, spB, S_cps]
    by_cases h4 : isStrg l = true
    · rw [if_pos h4]
      by_cases h3 : l.length ≤ 40
      · rw [if_pos (by omega)]
        rw [h4] at hq
        simp only [h3, decide_true, Bool.true_and] at hq
        exact hq
      · rw [if_neg (by omega)]
        simpa [h3] using hq
    · rw [if_neg h4]
      rw [Bool.not_eq_true] at h4
      simpa [h4] using hq
  · rename_i d hd
    obtain ⟨h1, h2⟩ := h
    refine ⟨rfl, ?_⟩
    have hq : finP μ.next Q (.bl false) μ := fin_same hw rfl h2
    simp [startE, wpS, wpT, wpE, wpA, wpI, wpG, wpGs, wpOpt, spLen, spIsi, spInt, spStr, spTup, spLst, spMax, spApp, spFind, spSplit, spJoin, spDget, tn_str, tn_int, tn_bl, tn_non, tn_tup, tn_lst, tn_scr, td_str, td_lst, isB, tys, truD, cmpD, binD, slD, ixD, outs, eAllS, eAllN, eMaxD, eGin, eGinT, eGix, eRse, eCal0, drf, sq_tup, sq_lst, sq_scr, sq_str, sq_int, sq_non, l_lst, l_scr, l_tup, lm_lst, lm_str, lm_int, lm_tup, lm_non, lm_bl, eqOk_str, eqOk_int, eqOk_non, deq_int, deq_str, two_le, isNonD, tysOf, c_is_text, N_is_text]
    unfold sp_is_string spB
    split
    · rename_i x hx
      cases hx
      exact (hd x rfl).elim
    · rename_i d' hx
      cases hx
      simp [h1, hq]
    · rename_i h3 h4
      exact (h4 d rfl).elim
  · exact h.elim
theorem w_parameter_numbers : ∀ ds μ Q QX, μ.wf → objBs μ.next ds = true → sp_parameter_numbers ds μ Q QX → ds.length = 1 ∧ wpS c_parameter_numbers (startE N_parameter_numbers ds) μ (outs μ.next Q QX) := by
  intro ds μ Q QX hw ho h
  unfold sp_parameter_numbers at h
  split at h
  · rename_i d
    refine ⟨rfl, ?_⟩
    obtain ⟨xs, h1, h2, h3, h4⟩ := h
    have hq : finP μ.next Q (.lst ((parNs xs).map .int)) μ := fin_same hw (by
      show objBs μ.next ((parNs xs).map .int) = true
      generalize parNs xs = ns
      induction ns with
      | nil => rfl
      | cons n ns ih => exact ih) h4
    simp [startE, wpS, wpT, wpE, wpA, wpI, wpG, wpGs, wpOpt, spLen, spIsi, spInt, spStr, spTup, spLst, spMax, spApp, spFind, spSplit, spJoin, spDget, tn_str, tn_int, tn_bl, tn_non, tn_tup, tn_lst, tn_scr, td_str, td_lst, isB, tys, truD, cmpD, binD, slD, ixD, outs, eAllS, eAllN, eMaxD, eGin, eGinT, eGix, eRse, eCal0, drf, sq_tup, sq_lst, sq_scr, sq_str, sq_int, sq_non, l_lst, l_scr, l_tup, lm_lst, lm_str, lm_int, lm_tup, lm_non, lm_bl, eqOk_str, eqOk_int, eqOk_non, deq_int, deq_str, two_le, isNonD, tysOf, c_parameter_numbers, N_parameter_numbers, wipeE]
    refine itD_of h1 fun gd hg => loopC_pure (fun x => (parN x).map .int) hg (fun x hx N hN => ?_) (by simpa using Nat.le_of_lt h2) (by
      rw [List.nil_append]
      have e : ∀ ys : List D, ys.filterMap (fun x => (parN x).map D.int) = (parNs ys).map D.int := fun ys => by
        unfold parNs
        rw [List.map_filterMap]
      rw [e]
      exact hq)
    have hx := List.all_eq_true.mp h3 x hx
    unfold okItem at hx
    split at hx
    · simp [startE, wpS, wpT, wpE, wpA, wpI, wpG, wpGs, wpOpt, spLen, spIsi, spInt, spStr, spTup, spLst, spMax, spApp, spFind, spSplit, spJoin, spDget, tn_str, tn_int, tn_bl, tn_non, tn_tup, tn_lst, tn_scr, td_str, td_lst, isB, tys, truD, cmpD, binD, slD, ixD, outs, eAllS, eAllN, eMaxD, eGin, eGinT, eGix, eRse, eCal0, drf, sq_tup, sq_lst, sq_scr, sq_str, sq_int, sq_non, l_lst, l_scr, l_tup, lm_lst, lm_str, lm_int, lm_tup, lm_non, lm_bl, eqOk_str, eqOk_int, eqOk_non, deq_int, deq_str, two_le, isNonD, tysOf, atI_zero]
      exact hN
    · simp [startE, wpS, wpT, wpE, wpA, wpI, wpG, wpGs, wpOpt, spLen, spIsi, spInt, spStr, spTup, spLst, spMax, spApp, spFind, spSplit, spJoin, spDget, tn_str, tn_int, tn_bl, tn_non, tn_tup, tn_lst, tn_scr, td_str, td_lst, isB, tys, truD, cmpD, binD, slD, ixD, outs, eAllS, eAllN, eMaxD, eGin, eGinT, eGix, eRse, eCal0, drf, sq_tup, sq_lst, sq_scr, sq_str, sq_int, sq_non, l_lst, l_scr, l_tup, lm_lst, lm_str, lm_int, lm_tup, lm_non, lm_bl, eqOk_str, eqOk_int, eqOk_non, deq_int, deq_str, two_le, isNonD, tysOf, atI_zero]
      exact hN
    · rename_i k n hmem
      simp [startE, wpS, wpT, wpE, wpA, wpI, wpG, wpGs, wpOpt, spLen, spIsi, spInt, spStr, spTup, spLst, spMax, spApp, spFind, spSplit, spJoin, spDget, tn_str, tn_int, tn_bl, tn_non, tn_tup, tn_lst, tn_scr, td_str, td_lst, isB, tys, truD, cmpD, binD, slD, ixD, outs, eAllS, eAllN, eMaxD, eGin, eGinT, eGix, eRse, eCal0, drf, sq_tup, sq_lst, sq_scr, sq_str, sq_int, sq_non, l_lst, l_scr, l_tup, lm_lst, lm_str, lm_int, lm_tup, lm_non, lm_bl, eqOk_str, eqOk_int, eqOk_non, deq_int, deq_str, two_le, isNonD, tysOf, atI_zero, show atI [D.str k, D.int n] 1 = some (.int n) from rfl]
      simp only [parN] at hN
      split
      · rename_i e
        rw [if_pos e] at hN
        exact hN
      · rename_i e
        rw [if_neg e] at hN
        exact hN
    · rename_i k n hmem
      simp [startE, wpS, wpT, wpE, wpA, wpI, wpG, wpGs, wpOpt, spLen, spIsi, spInt, spStr, spTup, spLst, spMax, spApp, spFind, spSplit, spJoin, spDget, tn_str, tn_int, tn_bl, tn_non, tn_tup, tn_lst, tn_scr, td_str, td_lst, isB, tys, truD, cmpD, binD, slD, ixD, outs, eAllS, eAllN, eMaxD, eGin, eGinT, eGix, eRse, eCal0, drf, sq_tup, sq_lst, sq_scr, sq_str, sq_int, sq_non, l_lst, l_scr, l_tup, lm_lst, lm_str, lm_int, lm_tup, lm_non, lm_bl, eqOk_str, eqOk_int, eqOk_non, deq_int, deq_str, two_le, isNonD, tysOf, atI_zero, show atI [D.str k, D.int n] 1 = some (.int n) from rfl]
      simp only [parN] at hN
      split
      · rename_i e
        rw [if_pos e] at hN
        exact hN
      · rename_i e
        rw [if_neg e] at hN
        exact hN
    · rename_i k n hmem
      have e := of_decide_eq_true hx
      simp [startE, wpS, wpT, wpE, wpA, wpI, wpG, wpGs, wpOpt, spLen, spIsi, spInt, spStr, spTup, spLst, spMax, spApp, spFind, spSplit, spJoin, spDget, tn_str, tn_int, tn_bl, tn_non, tn_tup, tn_lst, tn_scr, td_str, td_lst, isB, tys, truD, cmpD, binD, slD, ixD, outs, eAllS, eAllN, eMaxD, eGin, eGinT, eGix, eRse, eCal0, drf, sq_tup, sq_lst, sq_scr, sq_str, sq_int, sq_non, l_lst, l_scr, l_tup, lm_lst, lm_str, lm_int, lm_tup, lm_non, lm_bl, eqOk_str, eqOk_int, eqOk_non, deq_int, deq_str, two_le, isNonD, tysOf, atI_zero, e]
      exact hN
    · rename_i k n hmem
      have e := of_decide_eq_true hx
      simp [startE, wpS, wpT, wpE, wpA, wpI, wpG, wpGs, wpOpt, spLen, spIsi, spInt, spStr, spTup, spLst, spMax, spApp, spFind, spSplit, spJoin, spDget, tn_str, tn_int, tn_bl, tn_non, tn_tup, tn_lst, tn_scr, td_str, td_lst, isB, tys, truD, cmpD, binD, slD, ixD, outs, eAllS, eAllN, eMaxD, eGin, eGinT, eGix, eRse, eCal0, drf, sq_tup, sq_lst, sq_scr, sq_str, sq_int, sq_non, l_lst, l_scr, l_tup, lm_lst, lm_str, lm_int, lm_tup, lm_non, lm_bl, eqOk_str, eqOk_int, eqOk_non, deq_int, deq_str, two_le, isNonD, tysOf, atI_zero, e]
      exact hN
    · cases hx
  · exact h.elim
theorem w_parameters : ∀ ds μ Q QX, μ.wf → objBs μ.next ds = true → sp_parameters ds μ Q QX → ds.length = 1 ∧ wpS c_parameters (startE N_parameters ds) μ (outs μ.next Q QX) := by
  intro ds μ Q QX hw ho h
  unfold sp_parameters at h
  split at h
  · rename_i d
    refine ⟨rfl, ?_⟩
    obtain ⟨xs, h1, h2, h3, h4⟩ := h
    have hq : finP μ.next Q (.int (maxI 0 (parNs xs))) μ := fin_same hw rfl h4
    simp [startE, wpS, wpT, wpE, wpA, wpI, wpG, wpGs, wpOpt, spLen, spIsi, spInt, spStr, spTup, spLst, spMax, spApp, spFind, spSplit, spJoin, spDget, tn_str, tn_int, tn_bl, tn_non, tn_tup, tn_lst, tn_scr, td_str, td_lst, isB, tys, truD, cmpD, binD, slD, ixD, outs, eAllS, eAllN, eMaxD, eGin, eGinT, eGix, eRse, eCal0, drf, sq_tup, sq_lst, sq_scr, sq_str, sq_int, sq_non, l_lst, l_scr, l_tup, lm_lst, lm_str, lm_int, lm_tup, lm_non, lm_bl, eqOk_str, eqOk_int, eqOk_non, deq_int, deq_str, two_le, isNonD, tysOf, c_parameters, N_parameters, sp_parameter_numbers]
    exact ⟨xs, h1, h2, by simpa using h3, parNs xs, rfl, hq⟩
  · exact h.elim
end M
end

section
set_option Elab.async false
set_option linter.all false
set_option maxRecDepth 100000
set_option maxHeartbeats 4000000
set_option autoImplicit false
namespace M
open PySem PySem.Spec PyProof.Rows L2
open SX (S S_len S_cat)
theorem lit_minus : (Str.ofString "-") = S [45] := by decide +kernel
theorem lit_zero : (Str.ofString "0") = S [48] := by decide +kernel
theorem lit_quote : (Str.ofString "'") = S [39] := by decide +kernel
theorem lit_dollar : (Str.ofString "$") = S [36] := by decide +kernel
theorem lit_space : (Str.ofString " ") = S [32] := by decide +kernel
theorem lit_empty : (Str.ofString "") = S [] := by decide +kernel
theorem S_arr (a : Array Nat) (l : List Nat) : ((⟨a⟩ : Str) = S l) = (a.toList = l) := by
  apply propext
  constructor
  · intro h
    have : (⟨a⟩ : Str).cps = (S l).cps := by rw [h]
    have h2 : a = l.toArray := this
    rw [h2]
  · intro h
    subst h
    rfl
theorem digitsL_range {c : Nat} (h : c ∈ digitsL) : 48 ≤ c ∧ c ≤ 57 := by
  have e : digitsL = [48, 49, 50, 51, 52, 53, 54, 55, 56, 57] := by decide +kernel
  rw [e] at h
  simp at h
  omega
theorem digs_int {dg : List Nat} (h1 : 1 ≤ dg.length) (h2 : dg.length ≤ 10) (h3 : (dg.all fun c => decide (c ∈ digitsL)) = true) : intText? (S dg) = some ((NumText.digitsVal dg : Nat) : Int) := by
  refine SX.int_S ?_ (fun z => by subst z; simp at h1) (by omega)
  rw [List.all_eq_true] at h3 ⊢
  intro c hc
  obtain ⟨a, b⟩ := digitsL_range (of_decide_eq_true (h3 c hc))
  simp [a, b]
theorem ndig {dg : List Nat} : (∃ x, x ∈ dg ∧ ¬x ∈ (Str.ofString "0123456789").cps) ↔ (dg.all fun c => decide (c ∈ digitsL)) = false := by
  simp [digitsL]
/-- from the digits on -/
theorem num_rest {μ : Sto} {Q : Post} {l dg : List Nat} {n : Nat} {A B : Prop} (hA : A) (hB : dg.length ≤ 10 → B) (e : digs l = dg) (hq : ∀ o, numOf l = o → finP n Q (optI o) μ) :
    (if 1 ≤ (dg.length : Int) then if 10 < (dg.length : Int) then finP n Q .non μ else
      if ∃ x, x ∈ dg ∧ ¬x ∈ (Str.ofString "0123456789").cps then finP n Q .non μ else A ∧
        match atI dg 0 with
        | some c => if (⟨#[c]⟩ : Str) = Str.ofString "0" then (if S l = Str.ofString "0" then ∃ n0, intText? (S dg) = some n0 ∧ B ∧ (if List.take 1 l = [45] then (if n0 ≤ 2147483648 then (if -n0 ≤ 2147483647 then finP n Q (.int (-n0)) μ else finP n Q .non μ) else finP n Q .non μ) else (if -2147483648 ≤ n0 then (if n0 ≤ 2147483647 then finP n Q (.int n0) μ else finP n Q .non μ) else finP n Q .non μ)) else finP n Q .non μ)
          else ∃ n0, intText? (S dg) = some n0 ∧ B ∧ (if List.take 1 l = [45] then (if n0 ≤ 2147483648 then (if -n0 ≤ 2147483647 then finP n Q (.int (-n0)) μ else finP n Q .non μ) else finP n Q .non μ) else (if -2147483648 ≤ n0 then (if n0 ≤ 2147483647 then finP n Q (.int n0) μ else finP n Q .non μ) else finP n Q .non μ))
        | none => False
      else finP n Q .non μ) := by
  have no : ¬ (1 ≤ dg.length ∧ dg.length ≤ 10) ∨ (dg.all fun c => decide (c ∈ digitsL)) = false → finP n Q .non μ := fun z => hq none (by
    unfold numOf
    rw [e, if_pos z])
  by_cases h1 : 1 ≤ dg.length
  · rw [if_pos (by omega)]
    by_cases h2 : dg.length ≤ 10
    · rw [if_neg (by omega)]
      by_cases h3 : (dg.all fun c => decide (c ∈ digitsL)) = true
      · rw [if_neg (by rw [ndig, h3]; exact fun z => by cases z)]
        refine ⟨hA, ?_⟩
        have hi := digs_int h1 h2 h3
        have base : ¬ (¬ (1 ≤ dg.length ∧ dg.length ≤ 10) ∨ (dg.all fun c => decide (c ∈ digitsL)) = false) := by
          rintro (z | z)
          · exact z ⟨h1, h2⟩
          · rw [h3] at z
            cases z
        cases dg with
        | nil => simp at h1
        | cons c r =>
          rw [atI_zero]
          have fin : ¬ ((digs l).head? = some 48 ∧ l ≠ [48]) → ∃ n0, intText? (S (c :: r)) = some n0 ∧ B ∧ (if List.take 1 l = [45] then (if n0 ≤ 2147483648 then (if -n0 ≤ 2147483647 then finP n Q (.int (-n0)) μ else finP n Q .non μ) else finP n Q .non μ) else (if -2147483648 ≤ n0 then (if n0 ≤ 2147483647 then finP n Q (.int n0) μ else finP n Q .non μ) else finP n Q .non μ)) := fun z => by
            refine ⟨_, hi, hB h2, ?_⟩
            have hq2 := hq _ rfl
            unfold numOf at hq2
            rw [if_neg (by rw [e]; exact base), if_neg z, e] at hq2
            dsimp only at hq2
            by_cases hm : List.take 1 l = [45]
            · rw [if_pos hm] at hq2 ⊢
              by_cases g1 : ((NumText.digitsVal (c :: r) : Nat) : Int) ≤ 2147483648
              · rw [if_pos g1]
                by_cases g2 : -((NumText.digitsVal (c :: r) : Nat) : Int) ≤ 2147483647
                · rw [if_pos g2]
                  rw [if_pos ⟨by omega, g2⟩] at hq2
                  exact hq2
                · omega
              · rw [if_neg g1]
                rw [if_neg (by omega)] at hq2
                exact hq2
            · rw [if_neg hm] at hq2 ⊢
              rw [if_pos (by omega)]
              by_cases g2 : ((NumText.digitsVal (c :: r) : Nat) : Int) ≤ 2147483647
              · rw [if_pos g2]
                rw [if_pos ⟨by omega, g2⟩] at hq2
                exact hq2
              · rw [if_neg g2]
                rw [if_neg (by omega)] at hq2
                exact hq2
          by_cases h4 : c = 48
          · subst h4
            dsimp only
            rw [if_pos (by rw [lit_zero])]
            by_cases h5 : l = [48]
            · rw [if_pos (by rw [h5, lit_zero])]
              exact fin fun z => z.2 h5
            · rw [if_neg (by rw [lit_zero, S_eq]; exact h5)]
              refine hq none ?_
              unfold numOf
              rw [if_neg (by rw [e]; exact base), if_pos ⟨by rw [e]; rfl, h5⟩]
          · dsimp only
            rw [if_neg (by rw [lit_zero]; intro z; exact h4 (by have := SX.S_inj (a := [c]) z; simpa using this))]
            exact fin fun z => h4 (by rw [e] at z; simpa using z.1)
      · rw [if_pos (by rw [ndig]; simpa using h3)]
        exact no (.inr (by simpa using h3))
    · rw [if_pos (by omega)]
      exact no (.inl fun z => h2 z.2)
  · rw [if_neg (by omega)]
    exact no (.inl fun z => h1 z.1)
theorem w_number_of : ∀ ds μ Q QX, μ.wf → objBs μ.next ds = true → sp_number_of ds μ Q QX → ds.length = 1 ∧ wpS c_number_of (startE N_number_of ds) μ (outs μ.next Q QX) := by
  intro ds μ Q QX hw ho h
  unfold sp_number_of at h
  split at h
  · rename_i s
    obtain ⟨l, rfl⟩ := of_S s
    obtain ⟨h1, h2⟩ := h
    refine ⟨rfl, ?_⟩
    rw [S_cps] at h2
    rw [S_len] at h1
    have hq : ∀ o, numOf l = o → finP μ.next Q (optI o) μ := fun o e => by
      subst e
      refine fin_same hw ?_ h2
      cases numOf l <;> rfl
    have hd : (digs l).length ≤ sizeLine := by
      unfold digs
      split
      · rw [List.length_drop]; omega
      · exact h1
    simp [startE, wpS, wpT, wpE, wpA, wpI, wpG, wpGs, wpOpt, spLen, spIsi, spInt, spStr, spTup, spLst, spMax, spApp, spFind, spSplit, spJoin, spDget, tn_str, tn_int, tn_bl, tn_non, tn_tup, tn_lst, tn_scr, td_str, td_lst, isB, tys, truD, cmpD, binD, slD, ixD, outs, eAllS, eAllN, eMaxD, eGin, eGinT, eGix, eRse, eCal0, drf, sq_tup, sq_lst, sq_scr, sq_str, sq_int, sq_non, l_lst, l_scr, l_tup, lm_lst, lm_str, lm_int, lm_tup, lm_non, lm_bl, eqOk_str, eqOk_int, eqOk_non, deq_int, deq_str, two_le, isNonD, tysOf, c_number_of, N_number_of, S_len, h1, S_cps, cut_01, cut_1, lit_minus, S_arr]
    by_cases hm : List.take 1 l = [45]
    · rw [if_pos hm]
      refine ⟨by omega, ?_⟩
      have := num_rest (l := l) (dg := l.tail) (n := μ.next) (μ := μ) (Q := Q) (A := l.length ≤ sizeLine + 1) (B := l.length ≤ 641) (by omega) (by rw [List.length_tail]; omega) (by unfold digs; rw [if_pos hm, List.drop_one]) hq
      rw [List.length_tail] at this
      exact this
    · rw [if_neg hm]
      have := num_rest (l := l) (dg := l) (n := μ.next) (μ := μ) (Q := Q) (A := True) (B := l.length ≤ 640) trivial (by omega) (by unfold digs; rw [if_neg hm]) hq
      simp only [true_and] at this
      exact this
  · exact h.elim
theorem w_term_of : ∀ ds μ Q QX, μ.wf → objBs μ.next ds = true → sp_term_of ds μ Q QX → ds.length = 1 ∧ wpS c_term_of (startE N_term_of ds) μ (outs μ.next Q QX) := by
  intro ds μ Q QX hw ho h
  unfold sp_term_of at h
  split at h
  · rename_i s
    obtain ⟨l, rfl⟩ := of_S s
    obtain ⟨h1, h2⟩ := h
    refine ⟨rfl, ?_⟩
    rw [S_cps] at h2
    rw [S_len] at h1
    have hq : ∀ o, termOf l = o → objB μ.next o = true → finP μ.next Q o μ := fun o e ho2 => by
      subst e
      exact fin_same hw ho2 h2
    simp [startE, wpS, wpT, wpE, wpA, wpI, wpG, wpGs, wpOpt, spLen, spIsi, spInt, spStr, spTup, spLst, spMax, spApp, spFind, spSplit, spJoin, spDget, tn_str, tn_int, tn_bl, tn_non, tn_tup, tn_lst, tn_scr, td_str, td_lst, isB, tys, truD, cmpD, binD, slD, ixD, outs, eAllS, eAllN, eMaxD, eGin, eGinT, eGix, eRse, eCal0, drf, sq_tup, sq_lst, sq_scr, sq_str, sq_int, sq_non, l_lst, l_scr, l_tup, lm_lst, lm_str, lm_int, lm_tup, lm_non, lm_bl, eqOk_str, eqOk_int, eqOk_non, deq_int, deq_str, two_le, isNonD, tysOf, c_term_of, N_term_of, S_len, h1, S_cps, cut_01, cut_1, lit_quote, lit_dollar, S_arr, cut_in, atI_neg1, sp_is_text, spB, sp_number_of]
    have hT : ∀ o, termOf l = o → objB μ.next o = true → finP μ.next Q o μ := hq
    unfold termOf at hT
    by_cases hm : List.take 1 l = [39]
    · rw [if_pos hm]
      rw [if_pos hm, List.drop_one] at hT
      by_cases g1 : l.length > 1
      · rw [if_pos (by omega)]
        cases hl : l.getLast? with
        | none =>
          rw [List.getLast?_eq_none_iff] at hl
          subst hl
          simp at g1
        | some c =>
          dsimp only
          by_cases g2 : c = 39
          · rw [if_pos g2]
            refine ⟨by omega, ?_⟩
            by_cases g3 : isText l.tail.dropLast = true
            · rw [if_pos g3]
              exact hT _ (if_pos ⟨g1, by rw [hl, g2], g3⟩) rfl
            · rw [if_neg g3]
              exact hT _ (if_neg fun z => g3 z.2.2) rfl
          · rw [if_neg g2]
            exact hT _ (if_neg fun z => g2 (by rw [hl] at z; exact Option.some.inj z.2.1)) rfl
      · rw [if_neg (by omega)]
        exact hT _ (if_neg fun z => g1 z.1) rfl
    · rw [if_neg hm]
      rw [if_neg hm] at hT
      by_cases hd : List.take 1 l = [36]
      · rw [if_pos hd]
        rw [if_pos hd] at hT
        match l, hT, h1, hd with
        | [], hT, h1, hd => simp at hd
        | [a], hT, h1, hd =>
          rw [if_neg (by simp)]
          exact hT _ rfl rfl
        | [a, c], hT, h1, hd =>
          rw [if_pos (by simp), show atI [a, c] 1 = some c from rfl]
          dsimp only at hT ⊢
          rw [show cutD (Str.ofString "0123456789").cps.toList (some 1) (some 5) = [49, 50, 51, 52] by decide +kernel]
          refine ⟨by decide +kernel, ?_⟩
          rw [show strIn ⟨#[c]⟩ ⟨[49, 50, 51, 52].toArray⟩ = decide (c ∈ [49, 50, 51, 52]) from strIn_one c _]
          by_cases g : c ∈ [49, 50, 51, 52]
          · rw [if_pos (decide_eq_true g)]
            have e := digs_int (dg := [c]) (by simp) (by simp) (by
              have : c ∈ digitsL := by
                rw [show digitsL = [48, 49, 50, 51, 52, 53, 54, 55, 56, 57] by decide +kernel]
                simp at g ⊢
                omega
              simp [this])
            have e2 : NumText.digitsVal [c] = c - 48 := by simp [NumText.digitsVal]
            rw [e2] at e
            exact ⟨_, e, hT _ (if_pos g) rfl⟩
          · rw [if_neg (by simpa using g)]
            exact hT _ (if_neg g) rfl
        | a :: b :: c :: r, hT, h1, hd =>
          rw [if_neg (by simp only [List.length_cons]; omega)]
          exact hT _ rfl rfl
      · rw [if_neg hd]
        rw [if_neg hd] at hT
        exact hT _ rfl (by cases numOf l <;> rfl)
  · exact h.elim
end M
end

section
set_option Elab.async false
set_option linter.all false
set_option maxRecDepth 100000
set_option maxHeartbeats 4000000
set_option autoImplicit false
namespace M
open PySem PySem.Spec PyProof.Rows L2
open SX (S S_len S_cat)
theorem spl_head : ∀ (l acc : List Nat), ∃ r, TL.spl [32] 0 acc l = (acc ++ l.takeWhile fun x => decide (x ≠ 32)) :: r
  | [], acc => ⟨[], by simp [TL.spl]⟩
  | c :: r, acc => by
    unfold TL.spl
    by_cases h : c = 32
    · subst h
      rw [if_pos (by unfold TL.pre; rfl)]
      refine ⟨TL.spl [32] ([32].length - 1) [] r, ?_⟩
      simp
    · rw [if_neg (by unfold TL.pre; simpa using h)]
      obtain ⟨t, e⟩ := spl_head r (acc ++ [c])
      exact ⟨t, by rw [e, List.takeWhile_cons_of_pos (by simpa using h)]; simp⟩
theorem mem_idx {l : List Nat} {k : Nat} (h : k < l.length) : (S l).cps.getD k 0 = l[k] := by
  simp [Array.getD, h]
/-- from the opening quote to the closing one -/
theorem find_quote (r : List Nat) : (39 ∈ r ∧ Txt.find3 (S (39 :: r)) (S [39]) 1 = (((r.takeWhile fun x => decide (x ≠ 39)).length + 1 : Nat) : Int)) ∨ (39 ∉ r ∧ Txt.find3 (S (39 :: r)) (S [39]) 1 = -1) := by
  have hf : fromIndex (S (39 :: r)).length 1 = 1 := by
    rw [S_len, List.length_cons]
    first | rfl | (unfold fromIndex; simp) | (unfold fromIndex; split <;> omega)
  have hg : ∀ k, (S (39 :: r)).cps.getD (k + 1) 0 = r.getD k 0 := fun k => by
    simp [Array.getD]
    by_cases hk : k < r.length
    · simp [hk]
    · simp [hk]
  rcases StrLaws.find3_spec (S (39 :: r)) 39 1 with ⟨e, h⟩ | ⟨k, e, h1, h2, h3, h4⟩
  · refine .inr ⟨fun hm => ?_, e⟩
    obtain ⟨i, hi, ei⟩ := List.getElem_of_mem hm
    refine h (i + 1) (by rw [hf]; omega) (by rw [S_len, List.length_cons]; omega) ?_
    rw [hg]
    simp [List.getD, hi, ei]
  · rw [hf] at h1 h4
    rw [S_len, List.length_cons] at h2
    obtain ⟨j, rfl⟩ : ∃ j, k = j + 1 := ⟨k - 1, by omega⟩
    have hj : j < r.length := by omega
    rw [hg] at h3
    have hr : r[j] = 39 := by simpa [List.getD, hj] using h3
    refine .inl ⟨by rw [← hr]; exact List.getElem_mem hj, ?_⟩
    have hb : ∀ i, (hi : i < j) → r[i] ≠ 39 := fun i hi z => by
      refine h4 (i + 1) (by omega) (by omega) ?_
      rw [hg]
      have : i < r.length := by omega
      simp [List.getD, this, z]
    have hlen : (r.takeWhile fun x => decide (x ≠ 39)).length = j := by
      have : r = r.take j ++ (39 :: r.drop (j + 1)) := by
        conv => lhs; rw [← List.take_append_drop j r]
        rw [List.drop_eq_getElem_cons hj, hr]
      rw [this, List.takeWhile_append_of_pos (by
        intro a ha
        obtain ⟨i, hi, rfl⟩ := List.getElem_of_mem ha
        rw [List.length_take] at hi
        rw [List.getElem_take]
        simpa using hb i (by omega)), List.takeWhile_cons_of_neg (by simp)]
      simp
      omega
    rw [hlen]
    exact e
theorem take_quote {r : List Nat} (h : 39 ∈ r) : (39 :: r).take ((r.takeWhile fun x => decide (x ≠ 39)).length + 1 + 1) = 39 :: (r.takeWhile (fun x => decide (x ≠ 39)) ++ [39]) := by
  rw [List.take_succ_cons]
  congr 1
  have : ∀ r : List Nat, 39 ∈ r → r.take ((r.takeWhile fun x => decide (x ≠ 39)).length + 1) = r.takeWhile (fun x => decide (x ≠ 39)) ++ [39] := by
    intro r
    induction r with
    | nil => intro h; cases h
    | cons c r ih =>
      intro h
      by_cases hc : c = 39
      · subst hc
        rw [List.takeWhile_cons_of_neg (by simp)]
        rfl
      · rw [List.takeWhile_cons_of_pos (by simpa using hc), List.length_cons, List.take_succ_cons, ih (by
          rcases List.mem_cons.mp h with z | z
          · exact absurd z.symm hc
          · exact z)]
        rfl
  exact this r h
theorem fp_cons {c : Nat} {r : List Nat} : fp (c :: r) = if c = 39 then (if 39 ∈ r then 39 :: (r.takeWhile (fun x => decide (x ≠ 39)) ++ [39]) else []) else (c :: r).takeWhile fun x => decide (x ≠ 32) := rfl
theorem w_first_part : ∀ ds μ Q QX, μ.wf → objBs μ.next ds = true → sp_first_part ds μ Q QX → ds.length = 1 ∧ wpS c_first_part (startE N_first_part ds) μ (outs μ.next Q QX) := by
  intro ds μ Q QX hw ho h
  unfold sp_first_part at h
  split at h
  · rename_i s
    obtain ⟨l, rfl⟩ := of_S s
    obtain ⟨h1, h2⟩ := h
    refine ⟨rfl, ?_⟩
    rw [S_cps] at h2
    rw [S_len] at h1
    have hq : finP μ.next Q (.str (S (fp l))) μ := fin_same hw rfl h2
    have hz : l.length ≤ sizeLine := by omega
    simp [startE, wpS, wpT, wpE, wpA, wpI, wpG, wpGs, wpOpt, spLen, spIsi, spInt, spStr, spTup, spLst, spMax, spApp, spFind, spSplit, spJoin, spDget, tn_str, tn_int, tn_bl, tn_non, tn_tup, tn_lst, tn_scr, td_str, td_lst, isB, tys, truD, cmpD, binD, slD, ixD, outs, eAllS, eAllN, eMaxD, eGin, eGinT, eGix, eRse, eCal0, drf, sq_tup, sq_lst, sq_scr, sq_str, sq_int, sq_non, l_lst, l_scr, l_tup, lm_lst, lm_str, lm_int, lm_tup, lm_non, lm_bl, eqOk_str, eqOk_int, eqOk_non, deq_int, deq_str, two_le, isNonD, tysOf, c_first_part, N_first_part, S_len, hz, h1, S_cps, cut_01, lit_quote, lit_space, S_arr]
    cases l with
    | nil =>
      rw [if_neg (by simp), SX.split_S (by simp) (by decide)]
      exact hq
    | cons c r =>
      by_cases hc : c = 39
      · subst hc
        have eT : List.take 1 (39 :: r) = [39] := rfl
        rw [if_pos eT]
        rcases find_quote r with ⟨hm, e⟩ | ⟨hm, e⟩
        · rw [e]
          have e2 : ((((r.takeWhile fun x => decide (x ≠ 39)).length + 1 : Nat) : Int) + 1) = (((r.takeWhile fun x => decide (x ≠ 39)).length + 1 + 1 : Nat) : Int) := by omega
          rw [e2, cut_to, take_quote hm]
          rw [fp_cons, if_pos rfl, if_pos hm] at hq
          exact hq
        · rw [e]
          have e2 : (-1 + 1 : Int) = ((0 : Nat) : Int) := rfl
          rw [e2, cut_to, List.take_zero]
          rw [fp_cons, if_pos rfl, if_neg hm] at hq
          exact hq
      · rw [if_neg (by simpa using hc), SX.split_S (by simp) (by decide)]
        obtain ⟨t, et⟩ := spl_head (c :: r) []
        rw [et, List.map_cons, List.map_cons, atI_zero]
        rw [fp_cons, if_neg hc] at hq
        exact hq
  · exact h.elim
theorem fp_le (r : List Nat) : (fp r).length ≤ r.length := by
  cases r with
  | nil => exact Nat.le_refl _
  | cons c r =>
    rw [fp_cons]
    split
    · split
      · rename_i hm
        have := congrArg List.length (take_quote hm)
        simp only [List.length_take, List.length_cons, List.length_append, List.length_nil] at this ⊢
        omega
      · simp
    · exact (List.takeWhile_sublist _).length_le
theorem w_parts_of : ∀ ds μ Q QX, μ.wf → objBs μ.next ds = true → sp_parts_of ds μ Q QX → ds.length = 1 ∧ wpS c_parts_of (startE N_parts_of ds) μ (outs μ.next Q QX) := by
  intro ds μ Q QX hw ho h
  unfold sp_parts_of at h
  split at h
  · rename_i s
    obtain ⟨l, rfl⟩ := of_S s
    obtain ⟨h1, h2⟩ := h
    refine ⟨rfl, ?_⟩
    rw [S_cps] at h2
    rw [S_len] at h1
    have hs : ∀ {x : Str}, x.length + 4 ≤ sizeLine → True := fun _ => trivial
    simp [startE, wpS, wpT, wpE, wpA, wpI, wpG, wpGs, wpOpt, spLen, spIsi, spInt, spStr, spTup, spLst, spMax, spApp, spFind, spSplit, spJoin, spDget, tn_str, tn_int, tn_bl, tn_non, tn_tup, tn_lst, tn_scr, td_str, td_lst, isB, tys, truD, cmpD, binD, slD, ixD, outs, eAllS, eAllN, eMaxD, eGin, eGinT, eGix, eRse, eCal0, drf, sq_tup, sq_lst, sq_scr, sq_str, sq_int, sq_non, l_lst, l_scr, l_tup, lm_lst, lm_str, lm_int, lm_tup, lm_non, lm_bl, eqOk_str, eqOk_int, eqOk_non, deq_int, deq_str, two_le, isNonD, tysOf, c_parts_of, N_parts_of, S_len, S_cps, lit_space, lit_empty, S_cat]
    refine ⟨by omega, ?_⟩
    have hob : ∀ ls : List (List Nat), objB μ.next (.lst (ls.map strD)) = true := fun ls => by
      show objBs μ.next (ls.map strD) = true
      induction ls with
      | nil => rfl
      | cons x ls ih => exact ih
    refine whl_ind (fun n δ μ' => ∃ acc r o, δ = [some (.str (S l)), some (.obj μ.next), some (.str (S r)), o] ∧ μ.Part μ' ∧ μ'.cell μ.next = some (.lst (acc.map strD)) ∧ prs n acc r = partsOf l ∧ r.length < n ∧ acc.length + r.length + 2 < sizeLine) (l.length + 2)
      ⟨[], 32 :: l, none, rfl, part_mk hw (part_self hw), Sto.new_same, rfl, by simp, by simp; omega⟩ (fun δ μ' ⟨acc, r, o, _, _, _, _, h, _⟩ => by omega) ?_
    rintro n LW hLW δ μ' ⟨acc, r, o, rfl, q1, c1, p1, b1, b2⟩
    cases r with
    | nil =>
      have e : partsOf l = some acc := p1.symm
      rw [e] at h2
      simp [startE, wpS, wpT, wpE, wpA, wpI, wpG, wpGs, wpOpt, spLen, spIsi, spInt, spStr, spTup, spLst, spMax, spApp, spFind, spSplit, spJoin, spDget, tn_str, tn_int, tn_bl, tn_non, tn_tup, tn_lst, tn_scr, td_str, td_lst, isB, tys, truD, cmpD, binD, slD, ixD, outs, eAllS, eAllN, eMaxD, eGin, eGinT, eGix, eRse, eCal0, drf, sq_tup, sq_lst, sq_scr, sq_str, sq_int, sq_non, l_lst, l_scr, l_tup, lm_lst, lm_str, lm_int, lm_tup, lm_non, lm_bl, eqOk_str, eqOk_int, eqOk_non, deq_int, deq_str, two_le, isNonD, tysOf, t1_parts_of, c1]
      exact fin_part (part_del hw q1 (Nat.le_refl _)) (hob acc) h2
    | cons c r =>
      have hr : r.length + 2 ≤ sizeLine := by rw [List.length_cons] at b2; omega
      have hr1 : r.length + 1 ≤ sizeLine := by omega
      have hf := fp_le r
      have hfz : (fp r).length ≤ sizeLine := by omega
      have ha : acc.length < sizeLine := by rw [List.length_cons] at b2; omega
      have hno : (c ≠ 32 ∨ fp r = []) → finP μ.next Q .non μ' := fun z => by
        have e : partsOf l = none := by
          rw [← p1]
          show (if c ≠ 32 ∨ fp r = [] then none else _) = none
          rw [if_pos z]
        rw [e] at h2
        exact fin_part q1 rfl h2
      simp [startE, wpS, wpT, wpE, wpA, wpI, wpG, wpGs, wpOpt, spLen, spIsi, spInt, spStr, spTup, spLst, spMax, spApp, spFind, spSplit, spJoin, spDget, tn_str, tn_int, tn_bl, tn_non, tn_tup, tn_lst, tn_scr, td_str, td_lst, isB, tys, truD, cmpD, binD, slD, ixD, outs, eAllS, eAllN, eMaxD, eGin, eGinT, eGix, eRse, eCal0, drf, sq_tup, sq_lst, sq_scr, sq_str, sq_int, sq_non, l_lst, l_scr, l_tup, lm_lst, lm_str, lm_int, lm_tup, lm_non, lm_bl, eqOk_str, eqOk_int, eqOk_non, deq_int, deq_str, two_le, isNonD, tysOf, t1_parts_of, b1_parts_of, S_len, S_cps, cut_1, lit_space, lit_empty, S_arr, hr, hr1, atI_zero, sp_first_part, td_obj c1, c1, ha, hfz]
      by_cases hc : c = 32
      · rw [if_pos hc]
        by_cases hp : fp r = []
        · rw [if_pos hp]
          exact hno (.inr hp)
        · rw [if_neg hp]
          refine hLW _ _ ⟨acc ++ [fp r], r.drop (fp r).length, some (.str (S (fp r))), ?_, part_put hw q1 (Nat.le_refl _), by rw [Sto.put_same]; simp [strD], ?_, ?_, ?_⟩
          · rw [show (1 + ((fp r).length : Int)) = (((fp r).length + 1 : Nat) : Int) by omega, cut_from, List.drop_succ_cons]
          · rw [← p1]
            show _ = if c ≠ 32 ∨ fp r = [] then none else prs n (acc ++ [fp r]) (r.drop (fp r).length)
            rw [if_neg (by rintro (z | z); exact z hc; exact hp z)]
          · rw [List.length_drop]
            rw [List.length_cons] at b1
            omega
          · rw [List.length_append, List.length_drop, List.length_singleton]
            rw [List.length_cons] at b2
            have : 0 < (fp r).length := List.length_pos_iff.mpr hp
            omega
      · rw [if_neg hc]
        exact hno (.inl hc)
  · exact h.elim
theorem parts_len {l : List Nat} : ∀ {n : Nat} {acc ps : List (List Nat)}, prs n acc l = some ps → acc.length + l.length ≥ ps.length ∧ (acc ≠ [] ∨ l ≠ [] → ps ≠ [])
  | 0, acc, ps, h => by cases h
  | n + 1, acc, ps, h => by
    cases l with
    | nil =>
      cases h
      exact ⟨by simp, fun z => z.elim id fun z => absurd rfl z⟩
    | cons c r =>
      have h : (if c ≠ 32 ∨ fp r = [] then none else prs n (acc ++ [fp r]) (r.drop (fp r).length)) = some ps := h
      by_cases hz : c ≠ 32 ∨ fp r = []
      · rw [if_pos hz] at h
        cases h
      · rw [if_neg hz] at h
        obtain ⟨h1, h2⟩ := parts_len h
        have : 0 < (fp r).length := List.length_pos_iff.mpr fun e => hz (.inr e)
        refine ⟨?_, fun _ => h2 (.inl (by simp))⟩
        rw [List.length_append, List.length_singleton, List.length_drop] at h1
        rw [List.length_cons]
        omega
end M
end

section
set_option Elab.async false
set_option linter.all false
set_option maxRecDepth 100000
set_option maxHeartbeats 4000000
set_option autoImplicit false
namespace M
open PySem PySem.Spec PyProof.Rows L2
open SX (S S_len S_cat)
theorem forms_ints {z : Str} {d : D} (h : tbl_FORMS.lookup z = some d) : ∃ is : List Int, d = .tup (is.map .int) := by
  have hm : (z, d) ∈ tbl_FORMS := PySem.mem_of_lookup h
  have : ∀ p ∈ tbl_FORMS, ∃ is : List Int, p.2 = .tup (is.map .int) := by
    intro p hp
    simp only [tbl_FORMS, List.mem_cons, List.not_mem_nil, or_false] at hp
    rcases hp with rfl | rfl | rfl | rfl | rfl | rfl | rfl | rfl | rfl | rfl | rfl | rfl
    · exact ⟨[1], rfl⟩
    · exact ⟨[1], rfl⟩
    · exact ⟨[3], rfl⟩
    · exact ⟨[2], rfl⟩
    · exact ⟨[2], rfl⟩
    · exact ⟨[1, 3], rfl⟩
    · exact ⟨[1], rfl⟩
    · exact ⟨[0], rfl⟩
    · exact ⟨[0], rfl⟩
    · exact ⟨[0], rfl⟩
    · exact ⟨[1], rfl⟩
    · exact ⟨[1], rfl⟩
  exact this _ hm
theorem parts_small {b : Nat} : ∀ {n : Nat} {acc ps : List (List Nat)} {l : List Nat}, prs n acc l = some ps → (∀ p ∈ acc, p.length ≤ b) → l.length ≤ b → ∀ p ∈ ps, p.length ≤ b
  | 0, acc, ps, l, h => by cases h
  | n + 1, acc, ps, [], h => by
    cases h
    exact fun ha _ => ha
  | n + 1, acc, ps, c :: r, h => fun ha hb => by
    have h : (if c ≠ 32 ∨ fp r = [] then none else prs n (acc ++ [fp r]) (r.drop (fp r).length)) = some ps := h
    by_cases hz : c ≠ 32 ∨ fp r = []
    · rw [if_pos hz] at h
      cases h
    · rw [if_neg hz] at h
      rw [List.length_cons] at hb
      refine parts_small h (fun p hp => ?_) (by rw [List.length_drop]; omega)
      rcases List.mem_append.mp hp with z | z
      · exact ha p z
      · rw [List.mem_singleton] at z
        subst z
        have := fp_le r
        omega
/-- what a term is -/
theorem termOf_cases (l : List Nat) : termOf l = .non ∨ (∃ x, termOf l = txtD x) ∨ (∃ n : Int, 1 ≤ n ∧ n ≤ 4 ∧ termOf l = parD n) ∨ ∃ i, termOf l = .int i := by
  unfold termOf
  split
  · split
    · exact .inr (.inl ⟨_, rfl⟩)
    · exact .inl rfl
  · split
    · split
      · split
        · rename_i c hc
          refine .inr (.inr (.inl ⟨_, ?_, ?_, rfl⟩))
          · simp at hc; omega
          · simp at hc; omega
        · exact .inl rfl
      · exact .inl rfl
    · cases numOf l with
      | none => exact .inl rfl
      | some i => exact .inr (.inr (.inr ⟨i, rfl⟩))
theorem termOf_eqN (n : Nat) (l : List Nat) : eqN (n + 1) (termOf l) = true := by
  rcases termOf_cases l with e | ⟨x, e⟩ | ⟨m, _, _, e⟩ | ⟨i, e⟩ <;> rw [e] <;> cases n <;> rfl
theorem termOf_non (l : List Nat) : deq (termOf l) .non = isNonD (termOf l) := by
  rcases termOf_cases l with e | ⟨x, e⟩ | ⟨m, _, _, e⟩ | ⟨i, e⟩ <;> rw [e] <;> rfl
theorem termOf_item (l : List Nat) (h : isNonD (termOf l) = false) : okItem (termOf l) = true := by
  rcases termOf_cases l with e | ⟨x, e⟩ | ⟨m, _, _, e⟩ | ⟨i, e⟩
  · rw [e] at h; cases h
  · rw [e]
    show decide (Str.ofString "text" ≠ Str.ofString "parameter") = true
    decide +kernel
  · rw [e]; rfl
  · rw [e]; rfl
theorem termOf_objB (n : Nat) (l : List Nat) : objB n (termOf l) = true := by
  rcases termOf_cases l with e | ⟨x, e⟩ | ⟨m, _, _, e⟩ | ⟨i, e⟩ <;> rw [e] <;> rfl
theorem termOf_par (l : List Nat) (n : Int) (h : parN (termOf l) = some n) : 0 ≤ n ∧ n ≤ 4 := by
  rcases termOf_cases l with e | ⟨x, e⟩ | ⟨m, h1, h2, e⟩ | ⟨i, e⟩ <;> rw [e] at h
  · cases h
  · cases h
  · unfold parD parN at h
    dsimp only at h
    rw [if_pos rfl] at h
    cases h
    omega
  · cases h
/-- the rest of the def: from the terms on -/
theorem read_rest {μ : Sto} {Q : Post} {s : D} {w : List Nat} {rest : List (List Nat)} {E : XPost} (hr : rest.length ≤ 200) (hsm : ∀ p ∈ w :: rest, p.length ≤ sizeLine) (hw : μ.wf) (hh : headOk (w :: rest) = true) (h2 : Q (optT (stmtOf (w :: rest))) μ) :
    loopC (fun x μ N => sp_term_of [x] μ (fun y μ4 => N (some y) μ4) fun x x_1 => False) (fun _ => True)
      (fun ys μ2 => eqOk (.lst ys) = true ∧ if ∃ x, x ∈ ys ∧ deq x .non = true then finP μ.next Q .non μ2 else
        ((D.str (S w) :: rest.map strD).take 2).length + ys.length ≤ sizeLine ∧ ((D.str (S w) :: rest.map strD).take 2 ++ ys).length < sizeLine ∧ (((D.str (S w) :: rest.map strD).take 2 ++ ys).all okItem = true ∧ (((D.str (S w) :: rest.map strD).take 2 ++ ys).length < sizeLine ∧ ((D.str (S w) :: rest.map strD).take 2 ++ ys).all okItem = true ∧
          ((-(2 ^ 62) ≤ maxI 0 (parNs ((D.str (S w) :: rest.map strD).take 2 ++ ys)) + 1 ∧ maxI 0 (parNs ((D.str (S w) :: rest.map strD).take 2 ++ ys)) + 1 < 2 ^ 62) ∧
            if (!((intsD 1 (maxI 0 (parNs ((D.str (S w) :: rest.map strD).take 2 ++ ys)) + 1 - 1).toNat).all fun e => ((parNs ((D.str (S w) :: rest.map strD).take 2 ++ ys)).map .int).any fun y => deq y e)) = true then finP μ.next Q .non μ2 else finP μ.next Q (.tup ((D.str (S w) :: rest.map strD).take 2 ++ ys)) μ2)))) ((D.str (S w) :: rest.map strD).drop 2) [] μ := by
  have e1 : (D.str (S w) :: rest.map strD).drop 2 = ((w :: rest).drop 2).map strD := by rw [List.map_drop]; rfl
  have e2 : (D.str (S w) :: rest.map strD).take 2 = ((w :: rest).take 2).map strD := by rw [List.map_take]; rfl
  have hsz : sizeLine = 16777216 := sizeLine_eq
  rw [e1, e2]
  refine loopC_map (fun x => match x with
    | .str s => termOf s.cps.toList
    | d => d) trivial (fun x hx N hN => ?_) (by rw [List.length_map, List.length_drop, List.length_cons]; omega) ?_
  · obtain ⟨p, hp, rfl⟩ := List.mem_map.mp hx
    unfold sp_term_of strD
    dsimp only
    refine ⟨?_, hN⟩
    rw [S_len]
    exact hsm p (List.mem_of_mem_drop hp)
  · have e3 : (((w :: rest).drop 2).map strD).map (fun x => match x with
        | .str s => termOf s.cps.toList
        | d => d) = ((w :: rest).drop 2).map termOf := by
      rw [List.map_map]
      rfl
    rw [e3]
    refine ⟨?_, ?_⟩
    · show (((w :: rest).drop 2).map termOf).all (eqN 11) = true
      rw [List.all_map, List.all_eq_true]
      exact fun p _ => termOf_eqN 10 p
    · have hex : (∃ x, x ∈ ((w :: rest).drop 2).map termOf ∧ deq x .non = true) ↔ (((w :: rest).drop 2).map termOf).any isNonD = true := by
        rw [List.any_eq_true]
        constructor
        · rintro ⟨x, hx, e⟩
          obtain ⟨p, hp, rfl⟩ := List.mem_map.mp hx
          exact ⟨_, hx, by rw [← termOf_non]; exact e⟩
        · rintro ⟨x, hx, e⟩
          obtain ⟨p, hp, rfl⟩ := List.mem_map.mp hx
          exact ⟨_, hx, by rw [termOf_non]; exact e⟩
      unfold stmtOf at h2
      rw [if_neg (by rw [hh]; exact fun z => by cases z)] at h2
      by_cases hn : (((w :: rest).drop 2).map termOf).any isNonD = true
      · rw [if_pos (hex.mpr hn)]
        rw [if_pos hn] at h2
        exact fin_same hw rfl h2
      · rw [if_neg fun z => hn (hex.mp z)]
        rw [if_neg hn] at h2
        dsimp only at h2
        have hall : (((w :: rest).take 2).map strD ++ ((w :: rest).drop 2).map termOf).all okItem = true := by
          rw [List.all_append, Bool.and_eq_true]
          refine ⟨by rw [List.all_map]; simp [strD, okItem], ?_⟩
          rw [List.all_map, List.all_eq_true]
          intro p hp
          refine termOf_item p ?_
          cases e : isNonD (termOf p) with
          | false => rfl
          | true => exact absurd (List.any_eq_true.mpr ⟨_, List.mem_map_of_mem hp, e⟩) hn
        have hlen : (((w :: rest).take 2).map strD ++ ((w :: rest).drop 2).map termOf).length < sizeLine := by
          simp only [List.length_append, List.length_map, List.length_take, List.length_drop, List.length_cons]
          omega
        generalize hR : ((w :: rest).take 2).map strD ++ ((w :: rest).drop 2).map termOf = R at *
        have hb : ∀ n ∈ parNs R, 0 ≤ n ∧ n ≤ 4 := fun n hn2 => by
          unfold parNs at hn2
          obtain ⟨d, hd, e⟩ := List.mem_filterMap.mp hn2
          rw [← hR] at hd
          rcases List.mem_append.mp hd with z | z
          · obtain ⟨p, _, rfl⟩ := List.mem_map.mp z
            cases e
          · obtain ⟨p, _, rfl⟩ := List.mem_map.mp z
            exact termOf_par p n e
        obtain ⟨m1, m2⟩ := maxI_in 0 4 (z := 0) (by omega) hb
        have hob : objB μ.next (.tup R) = true := by
          show objBs μ.next R = true
          rw [← hR]
          have ap : ∀ (xs ys : List D), objBs μ.next (xs ++ ys) = (objBs μ.next xs && objBs μ.next ys) := by
            intro xs ys
            induction xs with
            | nil => rfl
            | cons x xs ih =>
              show (objB μ.next x && objBs μ.next (xs ++ ys)) = (objB μ.next x && objBs μ.next xs && objBs μ.next ys)
              rw [ih, Bool.and_assoc]
          have al : ∀ {α : Type} (f : α → D), (∀ a, objB μ.next (f a) = true) → ∀ xs : List α, objBs μ.next (xs.map f) = true := by
            intro α f hf xs
            induction xs with
            | nil => rfl
            | cons x xs ih =>
              show (objB μ.next (f x) && objBs μ.next (xs.map f)) = true
              rw [hf, ih]
              rfl
          rw [ap, al _ (fun _ => rfl), al _ (termOf_objB _)]
          rfl
        refine ⟨by rw [← List.length_append, hR]; omega, hlen, hall, hlen, hall, ⟨by omega, by omega⟩, ?_⟩
        rw [show maxI 0 (parNs R) + 1 - 1 = maxI 0 (parNs R) by omega]
        by_cases hc : ((intsD 1 (maxI 0 (parNs R)).toNat).all fun e => ((parNs R).map D.int).any fun y => deq y e) = true
        · rw [hc, if_neg (by decide)]
          rw [if_pos hc] at h2
          exact fin_same hw hob h2
        · rw [if_pos (by rw [Bool.not_eq_true] at hc; rw [hc]; rfl)]
          rw [if_neg hc] at h2
          exact fin_same hw rfl h2
theorem w_read_statement : ∀ ds μ Q QX, μ.wf → objBs μ.next ds = true → sp_read_statement ds μ Q QX → ds.length = 1 ∧ wpS c_read_statement (startE N_read_statement ds) μ (outs μ.next Q QX) := by
  intro ds μ Q QX hw ho h
  unfold sp_read_statement at h
  split at h
  · rename_i s
    obtain ⟨l, rfl⟩ := of_S s
    obtain ⟨h1, h2⟩ := h
    refine ⟨rfl, ?_⟩
    rw [S_cps] at h2
    rw [S_len] at h1
    have hz : l.length ≤ sizeLine := by omega
    have hz4 : l.length + 4 ≤ sizeLine := by omega
    have hno : readS l = none → finP μ.next Q .non μ := fun e => by
      rw [e] at h2
      exact fin_same hw rfl h2
    cases hs : isStrg l with
    | false =>
      simp [startE, wpS, wpT, wpE, wpA, wpI, wpG, wpGs, wpOpt, spLen, spIsi, spInt, spStr, spTup, spLst, spMax, spApp, spFind, spSplit, spJoin, spDget, tn_str, tn_int, tn_bl, tn_non, tn_tup, tn_lst, tn_scr, td_str, td_lst, isB, tys, truD, cmpD, binD, slD, ixD, outs, eAllS, eAllN, eMaxD, eGin, eGinT, eGix, eRse, eCal0, drf, sq_tup, sq_lst, sq_scr, sq_str, sq_int, sq_non, l_lst, l_scr, l_tup, lm_lst, lm_str, lm_int, lm_tup, lm_non, lm_bl, eqOk_str, eqOk_int, eqOk_non, deq_int, deq_str, two_le, isNonD, tysOf, c_read_statement, N_read_statement, S_len, S_cps, hz, sp_is_string, spB, hs]
      exact hno (by unfold readS; rw [hs, if_neg Bool.false_ne_true])
    | true =>
      have hl200 : l.length ≤ 200 := by
        unfold isStrg at hs
        rw [Bool.and_eq_true, decide_eq_true_eq] at hs
        exact hs.1
      cases hp : partsOf l with
      | none =>
        simp [startE, wpS, wpT, wpE, wpA, wpI, wpG, wpGs, wpOpt, spLen, spIsi, spInt, spStr, spTup, spLst, spMax, spApp, spFind, spSplit, spJoin, spDget, tn_str, tn_int, tn_bl, tn_non, tn_tup, tn_lst, tn_scr, td_str, td_lst, isB, tys, truD, cmpD, binD, slD, ixD, outs, eAllS, eAllN, eMaxD, eGin, eGinT, eGix, eRse, eCal0, drf, sq_tup, sq_lst, sq_scr, sq_str, sq_int, sq_non, l_lst, l_scr, l_tup, lm_lst, lm_str, lm_int, lm_tup, lm_non, lm_bl, eqOk_str, eqOk_int, eqOk_non, deq_int, deq_str, two_le, isNonD, tysOf, c_read_statement, N_read_statement, S_len, S_cps, hz, hz4, sp_is_string, spB, hs, sp_parts_of, hp, optL]
        exact hno (by unfold readS; rw [hs, if_pos rfl, hp]; rfl)
      | some ps =>
        have hlen := parts_len (l := 32 :: l) (n := l.length + 2) (acc := []) hp
        have hst : readS l = stmtOf ps := by unfold readS; rw [hs, if_pos rfl, hp]; rfl
        rw [hst] at hno h2
        cases ps with
        | nil => exact (hlen.2 (.inr (by simp)) rfl).elim
        | cons w rest =>
          have hr : rest.length ≤ 200 := by
            have := hlen.1
            simp at this
            omega
          cases hF : tbl_FORMS.lookup (S w) with
          | none =>
            simp [startE, wpS, wpT, wpE, wpA, wpI, wpG, wpGs, wpOpt, spLen, spIsi, spInt, spStr, spTup, spLst, spMax, spApp, spFind, spSplit, spJoin, spDget, tn_str, tn_int, tn_bl, tn_non, tn_tup, tn_lst, tn_scr, td_str, td_lst, isB, tys, truD, cmpD, binD, slD, ixD, outs, eAllS, eAllN, eMaxD, eGin, eGinT, eGix, eRse, eCal0, drf, sq_tup, sq_lst, sq_scr, sq_str, sq_int, sq_non, l_lst, l_scr, l_tup, lm_lst, lm_str, lm_int, lm_tup, lm_non, lm_bl, eqOk_str, eqOk_int, eqOk_non, deq_int, deq_str, two_le, isNonD, tysOf, c_read_statement, N_read_statement, S_len, S_cps, hz, hz4, sp_is_string, spB, hs, sp_parts_of, hp, optL, strD, atI_zero, hF]
            refine hno ?_
            have : headOk (w :: rest) = false := by
              unfold headOk formOk
              cases rest <;> simp [hF]
            unfold stmtOf
            rw [if_pos this]
          | some d =>
            obtain ⟨is, rfl⟩ := forms_ints hF
            have hany : ∀ n : Nat, (∀ x : Int, x ∈ is → ¬ x = (n : Int)) ↔ formOk w n = false := fun n => by
              unfold formOk
              rw [hF]
              dsimp only
              rw [List.any_map, List.any_eq_false]
              exact ⟨fun h x hx => by simpa using h x hx, fun h x hx => by simpa using h x hx⟩
            have hsm : ∀ p ∈ w :: rest, p.length ≤ sizeLine := fun p hp2 => by
              have := parts_small (b := l.length + 1) hp (fun _ z => by cases z) (by simp) p hp2
              omega
            have eis : eqOk (.tup (is.map .int)) = true := by
              show (is.map D.int).all (eqN 11) = true
              rw [List.all_map, List.all_eq_true]
              exact fun _ _ => rfl
            cases rest with
            | nil =>
              have hn0 : (∀ x : Int, x ∈ is → ¬ x = 0) ↔ formOk w 0 = false := by simpa using hany 0
              simp [startE, wpS, wpT, wpE, wpA, wpI, wpG, wpGs, wpOpt, spLen, spIsi, spInt, spStr, spTup, spLst, spMax, spApp, spFind, spSplit, spJoin, spDget, tn_str, tn_int, tn_bl, tn_non, tn_tup, tn_lst, tn_scr, td_str, td_lst, isB, tys, truD, cmpD, binD, slD, ixD, outs, eAllS, eAllN, eMaxD, eGin, eGinT, eGix, eRse, eCal0, drf, sq_tup, sq_lst, sq_scr, sq_str, sq_int, sq_non, l_lst, l_scr, l_tup, lm_lst, lm_str, lm_int, lm_tup, lm_non, lm_bl, eqOk_str, eqOk_int, eqOk_non, deq_int, deq_str, two_le, isNonD, tysOf, c_read_statement, N_read_statement, S_len, S_cps, hz, hz4, sp_is_string, spB, hs, sp_parts_of, hp, optL, strD, atI_zero, hF, eis, it_lst, cut_2, cut_02, sp_parameter_numbers, sp_parameters, wipeE, flatD, okItem]
              by_cases hf : formOk w 0 = true
              · have R := read_rest (s := .non) (E := fun _ _ => False) hr hsm hw (show headOk [w] = true from hf) h2
                rw [if_neg fun z => by rw [hn0.mp z] at hf; cases hf]
                simp [strD, flatD, okItem] at R
                exact R
              · have R : finP μ.next Q .non μ := hno (by unfold stmtOf; rw [if_pos (show headOk [w] = false by simpa [headOk] using hf)])
                rw [if_pos (hn0.mpr (by simpa using hf))]
                exact R
            | cons n r =>
              have hn0 := hany (r.length + 1)
              have hnz : n.length ≤ sizeLine := hsm n (by simp)
              simp [startE, wpS, wpT, wpE, wpA, wpI, wpG, wpGs, wpOpt, spLen, spIsi, spInt, spStr, spTup, spLst, spMax, spApp, spFind, spSplit, spJoin, spDget, tn_str, tn_int, tn_bl, tn_non, tn_tup, tn_lst, tn_scr, td_str, td_lst, isB, tys, truD, cmpD, binD, slD, ixD, outs, eAllS, eAllN, eMaxD, eGin, eGinT, eGix, eRse, eCal0, drf, sq_tup, sq_lst, sq_scr, sq_str, sq_int, sq_non, l_lst, l_scr, l_tup, lm_lst, lm_str, lm_int, lm_tup, lm_non, lm_bl, eqOk_str, eqOk_int, eqOk_non, deq_int, deq_str, two_le, isNonD, tysOf, c_read_statement, N_read_statement, S_len, S_cps, hz, hz4, sp_is_string, spB, hs, sp_parts_of, hp, optL, strD, atI_zero, hF, eis, it_lst, cut_2, cut_02, sp_parameter_numbers, sp_parameters, wipeE, flatD, okItem, sp_is_name, hnz, atI_one]
              have hn1 : (∀ x : Int, x ∈ is → ¬ x = (r.length : Int) + 1) ↔ formOk w (r.length + 1) = false := by simpa using hn0
              by_cases hf : formOk w (r.length + 1) = true
              · rw [if_neg (fun z => by rw [hn1.mp z] at hf; cases hf), if_pos (show (1 : Int) < (r.length : Int) + 1 + 1 by omega)]
                by_cases hi : isName n = true
                · rw [if_pos hi]
                  have R := read_rest (s := .non) (E := fun _ _ => False) hr hsm hw (show headOk (w :: n :: r) = true by show (formOk w (r.length + 1) && isName n) = true; rw [hf, hi]; rfl) h2
                  simp [strD, flatD, okItem] at R
                  exact R
                · rw [if_neg hi]
                  refine hno ?_
                  unfold stmtOf
                  rw [if_pos (show headOk (w :: n :: r) = false by show (formOk w (r.length + 1) && isName n) = false; rw [Bool.not_eq_true] at hi; rw [hf, hi]; rfl)]
              · rw [if_pos (hn1.mpr (by simpa using hf))]
                refine hno ?_
                unfold stmtOf
                rw [if_pos (show headOk (w :: n :: r) = false by show (formOk w (r.length + 1) && isName n) = false; rw [Bool.not_eq_true] at hf; rw [hf]; rfl)]
  · exact h.elim
theorem optT_item (n : Nat) (o : Option (List D)) (h : objBs n ((o.getD [])) = true) : objB n (optT o) = true := by
  cases o with
  | none => rfl
  | some ds => exact h
theorem stmtOf_objB (n : Nat) (ps : List (List Nat)) (ds : List D) (h : stmtOf ps = some ds) : objBs n ds = true := by
  unfold stmtOf at h
  split at h
  · cases h
  · split at h
    · cases h
    · dsimp only at h
      split at h
      · cases h
        have ap : ∀ (xs ys : List D), objBs n (xs ++ ys) = (objBs n xs && objBs n ys) := by
          intro xs ys
          induction xs with
          | nil => rfl
          | cons x xs ih =>
            show (objB n x && objBs n (xs ++ ys)) = (objB n x && objBs n xs && objBs n ys)
            rw [ih, Bool.and_assoc]
        have al : ∀ {α : Type} (f : α → D), (∀ a, objB n (f a) = true) → ∀ xs : List α, objBs n (xs.map f) = true := by
          intro α f hf xs
          induction xs with
          | nil => rfl
          | cons x xs ih =>
            show (objB n (f x) && objBs n (xs.map f)) = true
            rw [hf, ih]
            rfl
        rw [ap, al _ (fun _ => rfl), al _ (termOf_objB _)]
        rfl
      · cases h
theorem readS_objB (n : Nat) (l : List Nat) (ds : List D) (h : readS l = some ds) : objBs n ds = true := by
  unfold readS at h
  split at h
  · cases e : partsOf l with
    | none => rw [e] at h; cases h
    | some ps => rw [e] at h; exact stmtOf_objB n ps ds h
  · cases h
theorem w_parse_statement : ∀ ds μ Q QX, μ.wf → objBs μ.next ds = true → sp_parse_statement ds μ Q QX → ds.length = 1 ∧ wpS c_parse_statement (startE N_parse_statement ds) μ (outs μ.next Q QX) := by
  intro ds μ Q QX hw ho h
  unfold sp_parse_statement at h
  split at h
  · rename_i s
    obtain ⟨l, rfl⟩ := of_S s
    obtain ⟨h1, h2⟩ := h
    refine ⟨rfl, ?_⟩
    rw [S_cps] at h2
    rw [S_len] at h1
    cases e : readS l with
    | none =>
      rw [e] at h2
      simp [startE, wpS, wpT, wpE, wpA, wpI, wpG, wpGs, wpOpt, spLen, spIsi, spInt, spStr, spTup, spLst, spMax, spApp, spFind, spSplit, spJoin, spDget, tn_str, tn_int, tn_bl, tn_non, tn_tup, tn_lst, tn_scr, td_str, td_lst, isB, tys, truD, cmpD, binD, slD, ixD, outs, eAllS, eAllN, eMaxD, eGin, eGinT, eGix, eRse, eCal0, drf, sq_tup, sq_lst, sq_scr, sq_str, sq_int, sq_non, l_lst, l_scr, l_tup, lm_lst, lm_str, lm_int, lm_tup, lm_non, lm_bl, eqOk_str, eqOk_int, eqOk_non, deq_int, deq_str, two_le, isNonD, tysOf, c_parse_statement, N_parse_statement, S_len, S_cps, sp_read_statement, h1, e, optT]
      exact ⟨μ, Nat.le_refl _, part_self hw, h2⟩
    | some ds =>
      rw [e] at h2
      simp [startE, wpS, wpT, wpE, wpA, wpI, wpG, wpGs, wpOpt, spLen, spIsi, spInt, spStr, spTup, spLst, spMax, spApp, spFind, spSplit, spJoin, spDget, tn_str, tn_int, tn_bl, tn_non, tn_tup, tn_lst, tn_scr, td_str, td_lst, isB, tys, truD, cmpD, binD, slD, ixD, outs, eAllS, eAllN, eMaxD, eGin, eGinT, eGix, eRse, eCal0, drf, sq_tup, sq_lst, sq_scr, sq_str, sq_int, sq_non, l_lst, l_scr, l_tup, lm_lst, lm_str, lm_int, lm_tup, lm_non, lm_bl, eqOk_str, eqOk_int, eqOk_non, deq_int, deq_str, two_le, isNonD, tysOf, c_parse_statement, N_parse_statement, S_len, S_cps, sp_read_statement, h1, e, optT]
      exact fin_same hw (readS_objB _ l ds e) h2
  · exact h.elim
end M
end

section
set_option Elab.async false
set_option linter.all false
set_option maxRecDepth 100000
set_option maxHeartbeats 4000000
set_option autoImplicit false
/-! what the law's own helpers do. -/
namespace M
open PySem PySem.Spec PyProof.Rows L2
open SX (S S_len S_cat)
def sp__law_cell : Spec := fun ds μ Q _ => match ds with
  | [d, .int k] => 0 ≤ k ∧ ∃ ns : List Int, asSeq d μ = some (ns.map .int) ∧ ∀ i : Int, Q (.int i) μ
  | _ => False
def sp__law_row : Spec := fun ds μ Q _ => match ds with
  | [.int _, .int n] => 0 ≤ n ∧ n ≤ 1000 ∧ ∀ ns : List Int, ns.length = n.toNat → (∀ x ∈ ns, 0 ≤ x ∧ x < 840) → Q (.lst (ns.map .int)) μ
  | _ => False
def sp__law_name : Spec := fun ds μ Q _ => match ds with
  | [.int _] => ∀ l, isName l = true → Q (strD l) μ
  | _ => False
def sp__law_text : Spec := fun ds μ Q _ => match ds with
  | [.int _] => ∀ l, isText l = true → Q (strD l) μ
  | _ => False
def valOk (d : D) : Prop := (∃ l, isText l = true ∧ d = strD l) ∨ ∃ i : Int, -2147483648 ≤ i ∧ i ≤ 2147483647 ∧ d = .int i
def sp__law_value : Spec := fun ds μ Q _ => match ds with
  | [.int _] => ∀ d, valOk d → Q d μ
  | _ => False
/-- a term, when u parameters are in use -/
def termOk (u : Int) (d : D) : Prop := (∃ m : Int, 1 ≤ m ∧ m ≤ u + 1 ∧ m ≤ 4 ∧ d = parD m) ∨ (∃ l, isText l = true ∧ d = txtD l) ∨ ∃ i : Int, -2147483648 ≤ i ∧ i ≤ 2147483647 ∧ d = .int i
def sp__law_term : Spec := fun ds μ Q _ => match ds with
  | [.int _, .int u] => 0 ≤ u ∧ u ≤ 4 ∧ ∀ d, termOk u d → Q d μ
  | _ => False
def okItemT (d : D) : Bool := match d with
  | .str _ | .int _ => true
  | .tup [.str _, .int _] => true
  | .tup [.str k, .str _] => decide (k ≠ "parameter")
  | _ => false
def sp__law_used : Spec := fun ds μ Q _ => match ds with
  | [d] => ∃ xs, asSeq d μ = some xs ∧ xs.length + 1 < sizeLine ∧ xs.all okItemT = true ∧ Q (.int (maxI 0 (0 :: parNs xs))) μ
  | _ => False
/-- a word of the forms, as signs -/
def wordOk (l : List Nat) : Bool := decide (1 ≤ l.length) && decide (l.length ≤ 8) && l.all fun c => decide (c ∈ lettersL)
/-- a valid statement -/
def stmtOk (ds : List D) : Prop := (∃ w, isName w = true ∧ formOk w 0 = true ∧ ds = [strD w]) ∨
  ∃ w n ts, isName w = true ∧ isName n = true ∧ ts.length ≤ 2 ∧ formOk w (ts.length + 1) = true ∧ (∀ t ∈ ts, termOk 3 t) ∧ (∀ m : Int, 1 ≤ m → m ≤ maxI 0 (parNs ts) → m ∈ parNs ts) ∧ ds = strD w :: strD n :: ts
def sp__law_statement : Spec := fun ds μ Q _ => match ds with
  | [.lst row, .lst names] => ∃ ns : List Int, row = ns.map .int ∧ ns.length = 6 ∧ (∀ x ∈ ns, 0 ≤ x ∧ x < 840) ∧ names ≠ [] ∧ names.length < 1000 ∧ (∀ x ∈ names, ∃ l, isName l = true ∧ x = strD l) ∧ ∀ ds, stmtOk ds → Q (.tup ds) μ
  | _ => False
/-- an item as it is written -/
def numT (i : Int) : List Nat := (Str.ofString (toString i)).cps.toList
def tok (d : D) : List Nat := match d with
  | .str s => s.cps.toList
  | .int i => numT i
  | .tup [.str k, .str x] => if k = "text" then 39 :: (x.cps.toList ++ [39]) else []
  | .tup [.str k, .int n] => if k = "text" then [] else 36 :: numT n
  | _ => []
def written (ds : List D) : List Nat := TL.joinL [32] (ds.map tok)
/-- items that are written -/
def wrOk (d : D) : Prop := (∃ l, d = strD l) ∨ (∃ i : Int, i.natAbs < 2 ^ 40 ∧ d = .int i) ∨ (∃ l, d = txtD l) ∨ ∃ n : Int, n.natAbs < 2 ^ 40 ∧ d = parD n
def sp__law_written : Spec := fun ds μ Q _ => match ds with
  | [.tup xs] => xs.length ≤ 10 ∧ (∀ x ∈ xs, wrOk x ∧ (tok x).length ≤ 1000) ∧ Q (strD (written xs)) μ
  | _ => False
def listed (d : D) : D := match d with
  | .tup xs => .lst xs
  | d => d
def sp__law_listed : Spec := fun ds μ Q _ => match ds with
  | [.tup xs] => xs.length ≤ 10 ∧ (∀ x ∈ xs, wrOk x) ∧ Q (.lst (xs.map listed)) μ
  | _ => False
def sp_law : Spec := fun ds μ Q _ => match ds with
  | [.scr xs] => ∃ ns : List Int, xs = ns.map .int ∧ Q (.bl true) μ
  | _ => False
end M
end

section
set_option Elab.async false
set_option linter.all false
set_option maxRecDepth 100000
set_option maxHeartbeats 4000000
set_option autoImplicit false
namespace M
open PySem PySem.Spec PyProof.Rows L2
def N__law_cell : List Str := ["_law_script", "_law_k"]
def c__law_cell : IR := .seq (.ifS (.cmp .Lt (.var 1) (.cal "len" spLen (.cons (.var 0) .nil))) (.seq (.ret (.ix (.var 0) (.var 1))) (.nil)) (.nil)) (.seq (.ret (.con (.int 0))) (.nil))
def N__law_row : List Str := ["_law_cell_here", "_law_count", "_law_row_here", "_law_rest", "_law_seed", "_law_k"]
def b1__law_row : IR := .seq (.ifS (.cmp .GtE (.var 0) (.bin .Pow (.con (.int 10)) (.con (.int 18)))) (.seq (.exp (.bme "list" "list.append" "append" spApp (.var 2) (.cons (.bin .Mod (.cal "int" spInt (.cons (.var 3) .nil)) (.con (.int 840))) .nil))) (.seq (.asg (.gN 3) (.bin .FloorDiv (.var 3) (.con (.int 840)))) (.nil))) (.seq (.asg (.gN 4) (.bin .Mod (.cal "int" spInt (.cons (.bin .Add (.bin .Mult (.var 4) (.con (.int 48271))) (.var 5)) .nil)) (.con (.int 2147483647)))) (.seq (.exp (.bme "list" "list.append" "append" spApp (.var 2) (.cons (.bin .Mod (.bin .FloorDiv (.bin .Mod (.cal "int" spInt (.cons (.bin .Mult (.var 4) (.con (.int 69621))) .nil)) (.con (.int 2147483629))) (.con (.int 7))) (.con (.int 840))) .nil))) (.nil)))) (.nil)
def c__law_row : IR := .seq (.asg (.gN 2) (.lstM (.nil))) (.seq (.asg (.gN 3) (.var 0)) (.seq (.asg (.gN 4) (.bin .Add (.bin .Mod (.cal "int" spInt (.cons (.var 0) .nil)) (.con (.int 2147483629))) (.con (.int 1)))) (.seq (.fr (.gN 5) (.itR1 (.var 1)) b1__law_row) (.seq (.ret (.frz (.var 2))) (.nil)))))
def N__law_name : List Str := ["_law_number", "_law_letters", "_law_k"]
def c__law_name : IR := .seq (.asg (.gN 1) (.con (.str "abcdefghijklmnopqrstuvwxyz"))) (.seq (.ret (.bme "str" "str.join" "join" spJoin (.con (.str "")) (.cons (.cpr [("_law_k", 2)] (.gN 2) (.itR1 (.bin .Add (.con (.int 1)) (.bin .Mod (.var 0) (.con (.int 8))))) (.nop) (.ix (.var 1) (.bin .Mod (.bin .FloorDiv (.var 0) (.bin .Add (.con (.int 1)) (.bin .Mult (.con (.int 3)) (.var 2)))) (.con (.int 26))))) .nil))) (.nil))
def N__law_text : List Str := ["_law_number", "_law_signs", "_law_texts", "_law_count", "_law_k"]
def c__law_text : IR := .seq (.asg (.gN 1) (.bin .Add (.con (.str " !#$&()*+,-./0123456789:;<=>?@ABCDEFGHIJKLMNOPQRSTUVWXYZ[\\]^_`abcdefghijklmnopqrstuvwxyz{|}~")) (.con (.str "\"")))) (.seq (.asg (.gN 2) (.lstC (.cons (.con (.str "")) (.cons (.con (.str " ")) (.cons (.con (.str "a b")) (.cons (.con (.str "it")) (.cons (.con (.str "$1")) (.cons (.con (.str "-5")) (.cons (.con (.str "~!#")) (.cons (.bin .Mult (.con (.str "x")) (.con (.int 40))) (.cons (.con (.str "Ab 9")) (.cons (.con (.str "  ")) (.cons (.con (.str "7")) (.cons (.con (.str "put")) .nil)))))))))))))) (.seq (.ifS (.cmp .Eq (.bin .Mod (.var 0) (.con (.int 3))) (.con (.int 0))) (.seq (.asg (.gN 3) (.bin .Add (.con (.int 1)) (.bin .Mod (.bin .FloorDiv (.var 0) (.con (.int 3))) (.con (.int 40))))) (.seq (.ret (.bme "str" "str.join" "join" spJoin (.con (.str "")) (.cons (.cpr [("_law_k", 4)] (.gN 4) (.itR1 (.var 3)) (.nop) (.ix (.var 1) (.bin .Mod (.bin .Add (.bin .Mult (.con (.int 7)) (.bin .FloorDiv (.var 0) (.con (.int 3)))) (.bin .Mult (.var 4) (.bin .Add (.con (.int 1)) (.bin .Mod (.var 0) (.con (.int 5)))))) (.con (.int 93))))) .nil))) (.nil))) (.nil)) (.seq (.ifS (.cmp .Eq (.bin .Mod (.var 0) (.con (.int 13))) (.con (.int 12))) (.seq (.ret (.cal "_law_name" sp__law_name (.cons (.bin .FloorDiv (.var 0) (.con (.int 13))) .nil))) (.nil)) (.nil)) (.seq (.ret (.ix (.var 2) (.bin .Mod (.bin .Mod (.var 0) (.con (.int 13))) (.con (.int 12))))) (.nil)))))
def N__law_value : List Str := ["_law_number"]
def c__law_value : IR := .seq (.ifS (.cmp .Lt (.bin .Mod (.var 0) (.con (.int 5))) (.con (.int 2))) (.seq (.ret (.bin .Sub (.bin .Mod (.bin .FloorDiv (.var 0) (.con (.int 5))) (.con (.int 7))) (.con (.int 3)))) (.nil)) (.nil)) (.seq (.ifS (.cmp .Eq (.bin .Mod (.var 0) (.con (.int 5))) (.con (.int 2))) (.seq (.ret (.bin .Sub (.bin .Mod (.bin .Add (.bin .Mult (.bin .Mult (.var 0) (.con (.int 5113))) (.con (.int 40503))) (.con (.int 12345))) (.con (.int 4294967296))) (.con (.int 2147483648)))) (.nil)) (.nil)) (.seq (.ifS (.cmp .Eq (.bin .Mod (.var 0) (.con (.int 5))) (.con (.int 3))) (.seq (.ret (.ix (.lstC (.cons (.con (.int 2147483647)) (.cons (.neg (.con (.int 2147483648))) (.cons (.con (.int 1000000)) (.cons (.con (.int 0)) (.cons (.con (.int 255)) (.cons (.con (.int 256)) (.cons (.neg (.con (.int 1))) .nil)))))))) (.bin .Mod (.bin .FloorDiv (.var 0) (.con (.int 5))) (.con (.int 7))))) (.nil)) (.nil)) (.seq (.ret (.cal "_law_text" sp__law_text (.cons (.bin .FloorDiv (.var 0) (.con (.int 5))) .nil))) (.nil))))
def N__law_term : List Str := ["_law_number", "_law_used_here", "_law_value_here"]
def c__law_term : IR := .seq (.ifS (.tAnd (.cmp .Eq (.bin .Mod (.var 0) (.con (.int 7))) (.con (.int 0))) (.tOne (.cmp .Lt (.var 1) (.con (.int 4))))) (.seq (.ret (.tupC (.cons (.con (.str "parameter")) (.cons (.bin .Add (.var 1) (.con (.int 1))) .nil)))) (.nil)) (.nil)) (.seq (.ifS (.tAnd (.cmp .Eq (.bin .Mod (.var 0) (.con (.int 7))) (.con (.int 1))) (.tOne (.cmp .Gt (.var 1) (.con (.int 0))))) (.seq (.ret (.tupC (.cons (.con (.str "parameter")) (.cons (.bin .Add (.con (.int 1)) (.bin .Mod (.bin .FloorDiv (.var 0) (.con (.int 7))) (.var 1))) .nil)))) (.nil)) (.nil)) (.seq (.asg (.gN 2) (.cal "_law_value" sp__law_value (.cons (.bin .FloorDiv (.var 0) (.con (.int 7))) .nil))) (.seq (.ifS (.tV (.cal "isinstance" spIsi (.cons (.var 2) (.cons (.bty "str") .nil)))) (.seq (.ret (.tupC (.cons (.con (.str "text")) (.cons (.var 2) .nil)))) (.nil)) (.nil)) (.seq (.ret (.var 2)) (.nil)))))
def N__law_used : List Str := ["_law_parts", "_law_numbers", "_law_part"]
def c__law_used : IR := .seq (.asc 1 (.cpr [("_law_part", 2)] (.gN 2) (.itV (.var 0)) (.tAnd (.tV (.cal "isinstance" spIsi (.cons (.var 2) (.cons (.bty "tuple") .nil)))) (.tOne (.cmp .Eq (.ix (.var 2) (.con (.int 0))) (.con (.str "parameter"))))) (.ix (.var 2) (.con (.int 1))))) (.seq (.ret (.cal "max" spMax (.cons (.bin .Add (.lstC (.cons (.con (.int 0)) .nil)) (.var 1)) .nil))) (.nil))
def N__law_statement : List Str := ["_law_row_here", "_law_names", "_law_words", "_law_word", "_law_parts", "_law_count", "_law_k"]
def b1__law_statement : IR := .seq (.exp (.bme "list" "list.append" "append" spApp (.var 4) (.cons (.cal "_law_term" sp__law_term (.cons (.bin .Add (.ix (.var 0) (.bin .Add (.con (.int 3)) (.var 6))) (.bin .Mult (.con (.int 840)) (.ix (.var 0) (.bin .Sub (.con (.int 5)) (.bin .Mult (.con (.int 3)) (.var 6)))))) (.cons (.cal "_law_used" sp__law_used (.cons (.var 4) .nil)) .nil))) .nil))) (.nil)
def r8__law_statement : IR := .seq (.ret (.cal "tuple" spTup (.cons (.var 4) .nil))) (.nil)
def r7__law_statement : IR := .seq (.fr (.gN 6) (.itR1 (.var 5)) b1__law_statement) r8__law_statement
def r6__law_statement : IR := .seq (.ifS (.tAnd (.cmp .Eq (.var 5) (.con (.int 2))) (.tOne (.cmp .Eq (.bin .Mod (.ix (.var 0) (.con (.int 5))) (.con (.int 3))) (.con (.int 0))))) (.seq (.ret (.tupC (.cons (.var 3) (.cons (.ix (.var 4) (.con (.int 1))) (.cons (.tupC (.cons (.con (.str "parameter")) (.cons (.con (.int 2)) .nil))) (.cons (.tupC (.cons (.con (.str "parameter")) (.cons (.con (.int 1)) .nil))) .nil)))))) (.nil)) (.nil)) r7__law_statement
def r5__law_statement : IR := .seq (.asg (.gN 5) (.bme "dict" "dict.get" "get" spDget (.nod (fDsp ["put", "get", "delete", "scan"]) (eDsp ["put", "get", "delete", "scan"]) (.cons (.con (.int 2)) (.cons (.con (.int 1)) (.cons (.con (.int 1)) (.cons (.bin .Mult (.con (.int 2)) (.bin .Mod (.ix (.var 0) (.con (.int 2))) (.con (.int 2)))) .nil))))) (.cons (.var 3) (.cons (.con (.int 0)) .nil)))) r6__law_statement
def r4__law_statement : IR := .seq (.asg (.gN 4) (.lstM (.cons (.var 3) (.cons (.ix (.var 1) (.bin .Mod (.ix (.var 0) (.con (.int 1))) (.cal "len" spLen (.cons (.var 1) .nil)))) .nil)))) r5__law_statement
def r3__law_statement : IR := .seq (.ifS (.cmp .In (.var 3) (.lstC (.cons (.con (.str "begin")) (.cons (.con (.str "commit")) (.cons (.con (.str "rollback")) .nil))))) (.seq (.ret (.tupC (.cons (.var 3) .nil))) (.nil)) (.nil)) r4__law_statement
def r2__law_statement : IR := .seq (.asg (.gN 3) (.ix (.var 2) (.bin .Mod (.ix (.var 0) (.con (.int 0))) (.cal "len" spLen (.cons (.var 2) .nil))))) r3__law_statement
def r1__law_statement : IR := .seq (.asg (.gN 2) (.bin .Add (.var 2) (.lstC (.cons (.con (.str "rollback")) (.cons (.con (.str "drop")) (.cons (.con (.str "create")) (.cons (.con (.str "put")) (.cons (.con (.str "begin")) (.cons (.con (.str "save")) (.cons (.con (.str "undo")) (.cons (.con (.str "scan")) .nil))))))))))) r2__law_statement
def c__law_statement : IR := .seq (.asg (.gN 2) (.lstC (.cons (.con (.str "create")) (.cons (.con (.str "put")) (.cons (.con (.str "put")) (.cons (.con (.str "scan")) (.cons (.con (.str "begin")) (.cons (.con (.str "commit")) (.cons (.con (.str "put")) (.cons (.con (.str "get")) (.cons (.con (.str "delete")) (.cons (.con (.str "total")) (.cons (.con (.str "scan")) (.cons (.con (.str "save")) (.cons (.con (.str "undo")) .nil))))))))))))))) r1__law_statement
def N__law_written : List Str := ["_law_parts", "_law_words", "_law_part"]
def b1__law_written : IR := .seq (.ifS (.tV (.cal "isinstance" spIsi (.cons (.var 2) (.cons (.bty "str") .nil)))) (.seq (.exp (.bme "list" "list.append" "append" spApp (.var 1) (.cons (.var 2) .nil))) (.nil)) (.seq (.ifS (.tV (.cal "isinstance" spIsi (.cons (.var 2) (.cons (.bty "int") .nil)))) (.seq (.exp (.bme "list" "list.append" "append" spApp (.var 1) (.cons (.cal "str" spStr (.cons (.var 2) .nil)) .nil))) (.nil)) (.seq (.ifS (.cmp .Eq (.ix (.var 2) (.con (.int 0))) (.con (.str "text"))) (.seq (.exp (.bme "list" "list.append" "append" spApp (.var 1) (.cons (.bin .Add (.bin .Add (.con (.str "'")) (.ix (.var 2) (.con (.int 1)))) (.con (.str "'"))) .nil))) (.nil)) (.seq (.exp (.bme "list" "list.append" "append" spApp (.var 1) (.cons (.bin .Add (.con (.str "$")) (.cal "str" spStr (.cons (.ix (.var 2) (.con (.int 1))) .nil))) .nil))) (.nil))) (.nil))) (.nil))) (.nil)
def c__law_written : IR := .seq (.asg (.gN 1) (.lstM (.nil))) (.seq (.fr (.gN 2) (.itV (.var 0)) b1__law_written) (.seq (.ret (.bme "str" "str.join" "join" spJoin (.con (.str " ")) (.cons (.var 1) .nil))) (.nil)))
def N__law_listed : List Str := ["_law_parts", "_law_made", "_law_part"]
def b1__law_listed : IR := .seq (.exp (.bme "list" "list.append" "append" spApp (.var 1) (.cons (.var 2) .nil))) (.seq (.ifS (.tV (.cal "isinstance" spIsi (.cons (.var 2) (.cons (.bty "tuple") .nil)))) (.seq (.asg (.gSub (.var 1) (.neg (.con (.int 1)))) (.cal "list" spLst (.cons (.var 2) .nil))) (.nil)) (.nil)) (.nil))
def c__law_listed : IR := .seq (.asg (.gN 1) (.lstM (.nil))) (.seq (.fr (.gN 2) (.itV (.var 0)) b1__law_listed) (.seq (.ret (.frz (.var 1))) (.nil)))
def N_law : List Str := ["_law_script", "_law_cell_here", "_law_row_here", "_law_words", "_law_parts", "_law_told", "_law_one"]
def q6b1_law : IR := .seq (.ifS (.cmp .NotEq (.cal "parameters" sp_parameters (.cons (.cal "_law_listed" sp__law_listed (.cons (.var 5) .nil)) .nil)) (.cal "_law_used" sp__law_used (.cons (.var 4) .nil))) (.seq (.ret (.con (.bl false))) (.nil)) (.nil)) (.nil)
def q5b1_law : IR := .seq (.ifS (.tOr (.cmp .NotEq (.cal "parameters" sp_parameters (.cons (.var 5) .nil)) (.cal "_law_used" sp__law_used (.cons (.var 4) .nil))) (.tOne (.tV (.cal "isinstance" spIsi (.cons (.cal "parameters" sp_parameters (.cons (.var 5) .nil)) (.cons (.bty "bool") .nil)))))) (.seq (.ret (.con (.bl false))) (.nil)) (.nil)) q6b1_law
def q4b1_law : IR := .seq (.ifS (.tOr (.tNot (.tV (.cal "isinstance" spIsi (.cons (.var 5) (.cons (.bty "tuple") .nil))))) (.tOr (.cmp .NotEq (.var 5) (.var 4)) (.tOne (.cmp .Gt (.cal "len" spLen (.cons (.cpr [("_law_one", 6)] (.gN 6) (.itV (.var 5)) (.tV (.cal "isinstance" spIsi (.cons (.var 6) (.cons (.bty "bool") .nil)))) (.var 6)) .nil)) (.con (.int 0)))))) (.seq (.ret (.con (.bl false))) (.nil)) (.nil)) q5b1_law
def q3b1_law : IR := .seq (.asg (.gN 5) (.cal "parse_statement" sp_parse_statement (.cons (.cal "_law_written" sp__law_written (.cons (.var 4) .nil)) .nil))) q4b1_law
def q2b1_law : IR := .seq (.asg (.gN 4) (.cal "_law_statement" sp__law_statement (.cons (.sl (.var 2) (.nop) (.con (.int 6))) (.cons (.lstC (.cons (.cal "_law_name" sp__law_name (.cons (.ix (.var 2) (.con (.int 6))) .nil)) (.cons (.cal "_law_name" sp__law_name (.cons (.bin .Add (.ix (.var 2) (.con (.int 7))) (.bin .Mult (.con (.int 840)) (.bin .Mod (.ix (.var 2) (.con (.int 8))) (.con (.int 5))))) .nil)) (.cons (.ix (.var 3) (.bin .Mod (.ix (.var 2) (.con (.int 9))) (.con (.int 12)))) .nil)))) .nil)))) q3b1_law
def q1b1_law : IR := .seq (.asg (.gN 3) (.lstC (.cons (.con (.str "create")) (.cons (.con (.str "drop")) (.cons (.con (.str "put")) (.cons (.con (.str "delete")) (.cons (.con (.str "get")) (.cons (.con (.str "scan")) (.cons (.con (.str "total")) (.cons (.con (.str "begin")) (.cons (.con (.str "commit")) (.cons (.con (.str "rollback")) (.cons (.con (.str "save")) (.cons (.con (.str "undo")) .nil)))))))))))))) q2b1_law
def b1_law : IR := .seq (.asg (.gN 2) (.cal "_law_row" sp__law_row (.cons (.var 1) (.cons (.con (.int 10)) .nil)))) q1b1_law
def r1_law : IR := .seq (.ret (.con (.bl true))) (.nil)
def c_law : IR := .seq (.fr (.gN 1) (.itV (.bin .Add (.lstC (.cons (.cal "_law_cell" sp__law_cell (.cons (.var 0) (.cons (.con (.int 0)) .nil))) (.cons (.cal "_law_cell" sp__law_cell (.cons (.var 0) (.cons (.con (.int 1)) .nil))) .nil))) (.sl (.var 0) (.con (.int 2)) (.con (.int 20))))) b1_law) r1_law
end M
end

section
set_option Elab.async false
set_option linter.all false
set_option maxRecDepth 100000
set_option maxHeartbeats 4000000
set_option autoImplicit false
namespace M
open PySem PySem.Spec PyProof.Rows L2
open SX (S S_len S_cat)
theorem objBs_map {α : Type} (n : Nat) (f : α → D) (hf : ∀ a, objB n (f a) = true) : ∀ xs : List α, objBs n (xs.map f) = true
  | [] => rfl
  | x :: xs => by
    show (objB n (f x) && objBs n (xs.map f)) = true
    rw [hf, objBs_map n f hf xs]
    rfl
theorem atI_map {α β : Type} (f : α → β) (l : List α) (i : Int) : atI (l.map f) i = (atI l i).map f := by
  unfold atI
  rw [List.length_map]
  cases ixN l.length i with
  | none => rfl
  | some j => simp
theorem cpow_10_18 : CPow 10 18 := by unfold CPow; decide
theorem cdiv_small {a b : Int} (h : 0 < b) (h2 : b < 1073741824) : CDivN a b := by
  unfold CDivN
  first | omega | (constructor <;> omega)
theorem cmul_r {a b : Int} (h : 0 ≤ b) (h2 : b < 1073741824) : CMul a b := by
  unfold CMul
  first | omega | (right; omega)
theorem w__law_cell : ∀ ds μ Q QX, μ.wf → objBs μ.next ds = true → sp__law_cell ds μ Q QX → ds.length = 2 ∧ wpS c__law_cell (startE N__law_cell ds) μ (outs μ.next Q QX) := by
  intro ds μ Q QX hw ho h
  unfold sp__law_cell at h
  split at h
  · rename_i d k
    refine ⟨rfl, ?_⟩
    obtain ⟨h0, ns, h1, h2⟩ := h
    have hq : ∀ i : Int, finP μ.next Q (.int i) μ := fun i => fin_same hw rfl (h2 i)
    have hd : ∀ x, d ≠ .str x := fun x e => by rw [e] at h1; cases h1
    obtain ⟨j, rfl⟩ := Int.eq_ofNat_of_zero_le h0
    simp [startE, wpS, wpT, wpE, wpA, wpI, wpG, wpGs, wpOpt, spLen, spIsi, spInt, spStr, spTup, spLst, spMax, spApp, spFind, spSplit, spJoin, spDget, tn_str, tn_int, tn_bl, tn_non, tn_tup, tn_lst, tn_scr, td_str, td_lst, isB, tys, truD, cmpD, binD, slD, ixD, outs, eAllS, eAllN, eMaxD, eGin, eGinT, eGix, eRse, eCal0, drf, sq_tup, sq_lst, sq_scr, sq_str, sq_int, sq_non, l_lst, l_scr, l_tup, lm_lst, lm_str, lm_int, lm_tup, lm_non, lm_bl, eqOk_str, eqOk_int, eqOk_non, deq_int, deq_str, two_le, isNonD, tysOf, c__law_cell, N__law_cell, h1]
    cases d with
    | str x => exact (hd x rfl).elim
    | _ =>
      try simp only [h1]
      by_cases hk : j < ns.length
      · rw [if_pos (by simpa using hk), atI_nat', List.getElem?_map, List.getElem?_eq_getElem hk]
        exact hq _
      · rw [if_neg (by simpa using hk)]
        exact hq 0
  · exact h.elim
theorem w__law_row : ∀ ds μ Q QX, μ.wf → objBs μ.next ds = true → sp__law_row ds μ Q QX → ds.length = 2 ∧ wpS c__law_row (startE N__law_row ds) μ (outs μ.next Q QX) := by
  intro ds μ Q QX hw ho h
  unfold sp__law_row at h
  split at h
  · rename_i c n
    refine ⟨rfl, ?_⟩
    obtain ⟨h0, h00, h1⟩ := h
    simp [startE, wpS, wpT, wpE, wpA, wpI, wpG, wpGs, wpOpt, spLen, spIsi, spInt, spStr, spTup, spLst, spMax, spApp, spFind, spSplit, spJoin, spDget, tn_str, tn_int, tn_bl, tn_non, tn_tup, tn_lst, tn_scr, td_str, td_lst, isB, tys, truD, cmpD, binD, slD, ixD, outs, eAllS, eAllN, eMaxD, eGin, eGinT, eGix, eRse, eCal0, drf, sq_tup, sq_lst, sq_scr, sq_str, sq_int, sq_non, l_lst, l_scr, l_tup, lm_lst, lm_str, lm_int, lm_tup, lm_non, lm_bl, eqOk_str, eqOk_int, eqOk_non, deq_int, deq_str, two_le, isNonD, tysOf, c__law_row, N__law_row]
    refine ⟨by omega, by omega, ?_⟩
    refine for_gen (fun i δ μ' => ∃ (ns : List Int) (r s : Int) (o : Option D), δ = [some (.int c), some (.int n), some (.obj μ.next), some (.int r), some (.int s), o] ∧ μ.Part μ' ∧ μ'.cell μ.next = some (.lst (ns.map .int)) ∧ ns.length = i ∧ (∀ x ∈ ns, 0 ≤ x ∧ x < 840) ∧ 0 ≤ s ∧ s < 2147483648)
      ⟨[], _, _, _, rfl, part_mk hw (part_self hw), Sto.new_same, rfl, (fun _ z => by cases z), ?_, ?_⟩ ?_ ?_
    · have := fmod_lt (a := c) (b := 2147483629) (by omega)
      omega
    · have := fmod_lt (a := c) (b := 2147483629) (by omega)
      omega
    · rintro i x LW hx hLW δ μ' ⟨ns, r, s, o, rfl, q1, q2, q3, q4, q5, q6⟩
      obtain ⟨hi, rfl⟩ := intsD_at hx
      have hz : ns.length < sizeLine := by rw [sizeLine_eq]; omega
      have next : ∀ (y r s o), 0 ≤ y → y < 840 → 0 ≤ s → s < 2147483648 → LW [some (.int c), some (.int n), some (.obj μ.next), some (.int r), some (.int s), o] (μ'.put μ.next (.lst (ns.map .int ++ [.int y]))) := fun y r s o h1 h2 h3 h4 =>
        hLW _ _ ⟨ns ++ [y], r, s, o, rfl, part_put hw q1 (Nat.le_refl _), by rw [Sto.put_same]; simp, by simp [q3], fun x hx => by
          rcases List.mem_append.mp hx with z | z
          · exact q4 x z
          · rw [List.mem_singleton] at z
            subst z
            exact ⟨h1, h2⟩, h3, h4⟩
      refine ⟨trivial, ?_⟩
      simp [startE, wpS, wpT, wpE, wpA, wpI, wpG, wpGs, wpOpt, spLen, spIsi, spInt, spStr, spTup, spLst, spMax, spApp, spFind, spSplit, spJoin, spDget, tn_str, tn_int, tn_bl, tn_non, tn_tup, tn_lst, tn_scr, td_str, td_lst, isB, tys, truD, cmpD, binD, slD, ixD, outs, eAllS, eAllN, eMaxD, eGin, eGinT, eGix, eRse, eCal0, drf, sq_tup, sq_lst, sq_scr, sq_str, sq_int, sq_non, l_lst, l_scr, l_tup, lm_lst, lm_str, lm_int, lm_tup, lm_non, lm_bl, eqOk_str, eqOk_int, eqOk_non, deq_int, deq_str, two_le, isNonD, tysOf, b1__law_row, td_obj q2, q2, hz]
      have m1 : ∀ a : Int, 0 ≤ a.fmod 840 ∧ a.fmod 840 < 840 := fun a => fmod_lt (by omega)
      have m2 : ∀ a : Int, 0 ≤ a.fmod 2147483647 ∧ a.fmod 2147483647 < 2147483647 := fun a => fmod_lt (by omega)
      refine ⟨cpow_10_18, ?_⟩
      split
      · exact ⟨cdiv_small (by omega) (by omega), next _ _ _ _ (m1 _).1 (m1 _).2 q5 q6⟩
      · exact ⟨cmul_r (by omega) (by omega), cmul_r (by omega) (by omega), cdiv_small (by omega) (by omega), next _ _ _ _ (m1 _).1 (m1 _).2 (m2 _).1 (by have := (m2 (s * 48271 + i)).2; omega)⟩
    · rintro δ μ' ⟨ns, r, s, o, rfl, q1, q2, q3, q4, q5, q6⟩
      refine ⟨trivial, ?_⟩
      rw [intsD_len] at q3
      simp [q2]
      exact fin_part (part_del hw q1 (Nat.le_refl _)) (objBs_map _ _ (fun _ => rfl) _) (h1 ns q3 q4)
  · exact h.elim
end M
end

section
set_option Elab.async false
set_option linter.all false
set_option maxRecDepth 100000
set_option maxHeartbeats 4000000
set_option autoImplicit false
namespace M
open PySem PySem.Spec PyProof.Rows L2
open SX (S S_len S_cat)
theorem join_nil : ∀ ls : List (List Nat), TL.joinL [] ls = ls.flatten
  | [] => rfl
  | [p] => by simp [TL.joinL]
  | p :: q :: r => by
    show p ++ ([] ++ TL.joinL [] (q :: r)) = _
    rw [join_nil (q :: r)]
    simp
theorem join_signs (cs : List Nat) : Txt.join (S []) (cs.map fun c => S [c]) = S cs := by
  have e : (cs.map fun c => S [c]) = (cs.map fun c => [c]).map S := by rw [List.map_map]; rfl
  rw [e, SX.join_S, join_nil]
  congr 2
  induction cs with
  | nil => rfl
  | cons c cs ih => simp [ih]
theorem sum_ones (cs : List Nat) : ((cs.map fun c => S [c]).map (·.length)).sum = cs.length := by
  induction cs with
  | nil => rfl
  | cons c cs ih =>
    rw [List.map_cons, List.map_cons, List.sum_cons, ih, S_len, List.length_cons]
    simp
    omega
theorem fm_some {α β : Type} {f : α → Option β} {g : α → β} : ∀ {xs : List α}, (∀ x ∈ xs, f x = some (g x)) → xs.filterMap f = xs.map g
  | [], _ => rfl
  | x :: xs, h => by rw [List.filterMap_cons, h x List.mem_cons_self, List.map_cons, fm_some fun y hy => h y (List.mem_cons_of_mem _ hy)]
/-- ''.join([l[f(k)] for k in range(n)]) -/
theorem signs_from {l : List Nat} {n : Nat} {f : Nat → Int} (hf : ∀ k, k < n → ∃ c ∈ l, atI l (f k) = some c) : ∃ cs : List Nat, cs.length = n ∧ (∀ c ∈ cs, c ∈ l) ∧ ∀ k, k < n → ∃ c, cs[k]? = some c ∧ atI l (f k) = some c := by
  induction n with
  | zero => exact ⟨[], rfl, (fun _ z => by cases z), fun k hk => by omega⟩
  | succ n ih =>
    obtain ⟨cs, h1, h2, h3⟩ := ih fun k hk => hf k (by omega)
    obtain ⟨c, hc, e⟩ := hf n (by omega)
    refine ⟨cs ++ [c], by simp [h1], fun d hd => ?_, fun k hk => ?_⟩
    · rcases List.mem_append.mp hd with z | z
      · exact h2 d z
      · rw [List.mem_singleton] at z
        rw [z]
        exact hc
    · by_cases hkn : k < n
      · obtain ⟨d, e1, e2⟩ := h3 k hkn
        exact ⟨d, by rw [List.getElem?_append_left (by omega)]; exact e1, e2⟩
      · have : k = n := by omega
        subst this
        exact ⟨c, by rw [List.getElem?_append_right (by omega), h1]; simp, e⟩
theorem atI_in {l : List Nat} {i : Int} (h : 0 ≤ i ∧ i < l.length) : ∃ c ∈ l, atI l i = some c := by
  obtain ⟨k, rfl⟩ := Int.eq_ofNat_of_zero_le h.1
  have hk : k < l.length := by omega
  exact ⟨l[k], List.getElem_mem hk, by rw [atI_nat', List.getElem?_eq_getElem hk]⟩
/-- the comprehension of these signs -/
theorem loop_signs {turn : D → Sto → (Option D → Sto → Prop) → Prop} {gd : Sto → Prop} {fin : List D → Sto → Prop} {μ : Sto} {n : Nat} {l : List Nat} {f : Nat → Int} (hg : gd μ) (hz : n ≤ sizeLine) (hf : ∀ k, k < n → 0 ≤ f k ∧ f k < l.length)
    (ht : ∀ (k : Nat) (c : Nat) (N : Option D → Sto → Prop), k < n → atI l (f k) = some c → N (some (strD [c])) μ → turn (.int k) μ N) (hfin : ∀ cs : List Nat, cs.length = n → (∀ c ∈ cs, c ∈ l) → fin (cs.map fun c => strD [c]) μ) :
    loopC turn gd fin (intsD 0 n) [] μ := by
  obtain ⟨cs, h1, h2, h3⟩ := signs_from (l := l) (n := n) (f := f) fun k hk => atI_in (hf k hk)
  have e : (intsD 0 n).filterMap (fun x => match x with
      | .int k => (cs[k.toNat]?).map fun c => strD [c]
      | _ => none) = cs.map fun c => strD [c] := by
    rw [fm_some (g := fun x => match x with
      | .int k => strD [cs.getD k.toNat 0]
      | _ => .non) fun x hx => ?_]
    · apply List.ext_getElem?
      intro i
      rw [List.getElem?_map, List.getElem?_map]
      by_cases hi : i < n
      · rw [intsD_get hi]
        have : i < cs.length := by omega
        simp [this, List.getD]
      · rw [List.getElem?_eq_none (by rw [intsD_len]; omega), List.getElem?_eq_none (by omega)]
        rfl
    · obtain ⟨k, hk, rfl⟩ := List.getElem_of_mem hx
      rw [intsD_len] at hk
      have ek := intsD_at (List.getElem?_eq_getElem (by rw [intsD_len]; exact hk) : (intsD 0 n)[k]? = _)
      rw [ek.2]
      have hk2 : (0 + (k : Int)).toNat < cs.length := by omega
      dsimp only
      rw [List.getElem?_eq_getElem hk2, List.getD_eq_getElem?_getD, List.getElem?_eq_getElem hk2]
      rfl
  refine loopC_pure (fun x => match x with
      | .int k => (cs[k.toNat]?).map fun c => strD [c]
      | _ => none) hg (fun x hx N hN => ?_) (by rw [intsD_len]; simpa using hz) (by rw [List.nil_append, e]; exact hfin cs h1 h2)
  obtain ⟨k, hk, rfl⟩ := List.getElem_of_mem hx
  rw [intsD_len] at hk
  have ek := intsD_at (List.getElem?_eq_getElem (by rw [intsD_len]; exact hk) : (intsD 0 n)[k]? = _)
  rw [ek.2] at hN ⊢
  obtain ⟨c, e1, e2⟩ := h3 k hk
  rw [show (0 + (k : Int)) = k by omega] at hN ⊢
  refine ht k c N hk e2 ?_
  dsimp only at hN
  rw [Int.toNat_natCast, e1] at hN
  exact hN
theorem cmul_l {a b : Int} (h : 0 ≤ a) (h2 : a < 1073741824) : CMul a b := by
  unfold CMul
  left
  omega
theorem w__law_name : ∀ ds μ Q QX, μ.wf → objBs μ.next ds = true → sp__law_name ds μ Q QX → ds.length = 1 ∧ wpS c__law_name (startE N__law_name ds) μ (outs μ.next Q QX) := by
  intro ds μ Q QX hw ho h
  unfold sp__law_name at h
  split at h
  · rename_i m
    refine ⟨rfl, ?_⟩
    have hq : ∀ l, isName l = true → finP μ.next Q (strD l) μ := fun l hl => fin_same hw rfl (h l hl)
    have m1 : ∀ a : Int, 0 ≤ a.fmod 26 ∧ a.fmod 26 < 26 := fun a => fmod_lt (by omega)
    have m2 := fmod_lt (a := m) (b := 8) (by omega)
    simp [startE, wpS, wpT, wpE, wpA, wpI, wpG, wpGs, wpOpt, spLen, spIsi, spInt, spStr, spTup, spLst, spMax, spApp, spFind, spSplit, spJoin, spDget, tn_str, tn_int, tn_bl, tn_non, tn_tup, tn_lst, tn_scr, td_str, td_lst, isB, tys, truD, cmpD, binD, slD, ixD, outs, eAllS, eAllN, eMaxD, eGin, eGinT, eGix, eRse, eCal0, drf, sq_tup, sq_lst, sq_scr, sq_str, sq_int, sq_non, l_lst, l_scr, l_tup, lm_lst, lm_str, lm_int, lm_tup, lm_non, lm_bl, eqOk_str, eqOk_int, eqOk_non, deq_int, deq_str, two_le, isNonD, tysOf, c__law_name, N__law_name, wipeE]
    refine ⟨by omega, by omega, ?_⟩
    have hlen : lettersL.length = 26 := by decide +kernel
    refine loop_signs (l := lettersL) (f := fun k => (m.fdiv (1 + 3 * (k : Int))).fmod 26) trivial (by rw [sizeLine_eq]; omega) (fun k hk => by rw [hlen]; exact m1 _) (fun k c N hk he hN => ?_) (fun cs hcs hin => ?_)
    · dsimp only
      refine ⟨cmul_l (by omega) (by omega), cdiv_small (by omega) (by omega), by decide +kernel, ?_⟩
      rw [show (Str.ofString "abcdefghijklmnopqrstuvwxyz").cps.toList = lettersL from rfl, he]
      exact hN
    · refine ⟨cs.map fun c => S [c], by rw [List.map_map]; rfl, ?_, ?_⟩
      · rw [sum_ones, show (Str.ofString "").length = 0 from rfl]
        omega
      · rw [lit_empty, join_signs]
        refine hq cs ?_
        unfold isName
        simp
        refine ⟨⟨by omega, by omega⟩, fun x hx => ?_⟩
        exact hin x hx
  · exact h.elim
def textL : List Nat := ((" !#$&()*+,-./0123456789:;<=>?@ABCDEFGHIJKLMNOPQRSTUVWXYZ[\\]^_`abcdefghijklmnopqrstuvwxyz{|}~" : Str) ++ ("\"" : Str)).cps.toList
theorem textL_ok : ∀ c ∈ textL, c ∈ signsL ∧ c ≠ 39 := by decide +kernel
theorem letters_ok : ∀ c ∈ lettersL, c ∈ signsL ∧ c ≠ 39 := by decide +kernel
theorem isText_name {l : List Nat} (h : isName l = true) : isText l = true := by
  unfold isName at h
  simp at h
  obtain ⟨⟨h1, h2⟩, h3⟩ := h
  unfold isText isStrg
  simp
  exact ⟨⟨⟨by omega, fun x hx => (letters_ok x (h3 x hx)).1⟩, by omega⟩, fun z => (letters_ok 39 (h3 39 z)).2 rfl⟩
theorem atI_all {P : D → Prop} {l : List D} (h : ∀ d ∈ l, P d) {i : Int} (hi : 0 ≤ i ∧ i < l.length) : ∃ d, atI l i = some d ∧ P d := by
  obtain ⟨k, rfl⟩ := Int.eq_ofNat_of_zero_le hi.1
  have hk : k < l.length := by omega
  exact ⟨l[k], by rw [atI_nat', List.getElem?_eq_getElem hk], h _ (List.getElem_mem hk)⟩
theorem texts_ok : ∀ d ∈ [D.str "", D.str " ", D.str "a b", D.str "it", D.str "$1", D.str "-5", D.str "~!#", D.str (repS "x" 40), D.str "Ab 9", D.str "  ", D.str "7", D.str "put"], ∃ l, isText l = true ∧ d = strD l := by
  have mk : ∀ x : Str, isText x.cps.toList = true → ∃ l, isText l = true ∧ D.str x = strD l := fun x h => ⟨x.cps.toList, h, by rw [strD, SX.S_tl]⟩
  intro d hd
  simp only [List.mem_cons, List.not_mem_nil, or_false] at hd
  rcases hd with rfl | rfl | rfl | rfl | rfl | rfl | rfl | rfl | rfl | rfl | rfl | rfl <;> exact mk _ (by decide +kernel)
theorem ints_ok : ∀ d ∈ [D.int 2147483647, D.int (-2147483648), D.int 1000000, D.int 0, D.int 255, D.int 256, D.int (-1)], ∃ i : Int, -2147483648 ≤ i ∧ i ≤ 2147483647 ∧ d = .int i := by
  intro d hd
  simp only [List.mem_cons, List.not_mem_nil, or_false] at hd
  rcases hd with rfl | rfl | rfl | rfl | rfl | rfl | rfl <;> exact ⟨_, by omega, by omega, rfl⟩
theorem w__law_text : ∀ ds μ Q QX, μ.wf → objBs μ.next ds = true → sp__law_text ds μ Q QX → ds.length = 1 ∧ wpS c__law_text (startE N__law_text ds) μ (outs μ.next Q QX) := by
  intro ds μ Q QX hw ho h
  unfold sp__law_text at h
  split at h
  · rename_i m
    refine ⟨rfl, ?_⟩
    have hq : ∀ l, isText l = true → finP μ.next Q (strD l) μ := fun l hl => fin_same hw rfl (h l hl)
    have m1 : ∀ a : Int, 0 ≤ a.fmod 93 ∧ a.fmod 93 < 93 := fun a => fmod_lt (by omega)
    have m2 := fmod_lt (a := (m.fdiv 3)) (b := 40) (by omega)
    have m3 := fmod_lt (a := m) (b := 5) (by omega)
    have m4 : ∀ a : Int, 0 ≤ a.fmod 12 ∧ a.fmod 12 < 12 := fun a => fmod_lt (by omega)
    simp [startE, wpS, wpT, wpE, wpA, wpI, wpG, wpGs, wpOpt, spLen, spIsi, spInt, spStr, spTup, spLst, spMax, spApp, spFind, spSplit, spJoin, spDget, tn_str, tn_int, tn_bl, tn_non, tn_tup, tn_lst, tn_scr, td_str, td_lst, isB, tys, truD, cmpD, binD, slD, ixD, outs, eAllS, eAllN, eMaxD, eGin, eGinT, eGix, eRse, eCal0, drf, sq_tup, sq_lst, sq_scr, sq_str, sq_int, sq_non, l_lst, l_scr, l_tup, lm_lst, lm_str, lm_int, lm_tup, lm_non, lm_bl, eqOk_str, eqOk_int, eqOk_non, deq_int, deq_str, two_le, isNonD, tysOf, c__law_text, N__law_text, wipeE, sp__law_name]
    have hlen : textL.length = 93 := by decide +kernel
    refine ⟨by decide +kernel, by decide +kernel, by rw [sizeLine_eq]; omega, ?_⟩
    split
    · refine ⟨cdiv_small (by omega) (by omega), by omega, by omega, ?_⟩
      refine loop_signs (l := textL) (f := fun k => (7 * m.fdiv 3 + (k : Int) * (1 + m.fmod 5)).fmod 93) trivial (by rw [sizeLine_eq]; omega) (fun k hk => by rw [hlen]; exact m1 _) (fun k c N hk he hN => ?_) (fun cs hcs hin => ?_)
      · dsimp only
        refine ⟨cdiv_small (by omega) (by omega), cmul_l (by omega) (by omega), cmul_r (by omega) (by omega), by decide +kernel, ?_⟩
        rw [show (Str.ofString " !#$&()*+,-./0123456789:;<=>?@ABCDEFGHIJKLMNOPQRSTUVWXYZ[\\]^_`abcdefghijklmnopqrstuvwxyz{|}~" ++ Str.ofString "\"").cps.toList = textL from rfl, he]
        exact hN
      · refine ⟨cs.map fun c => S [c], by rw [List.map_map]; rfl, ?_, ?_⟩
        · rw [sum_ones, show (Str.ofString "").length = 0 from rfl]
          omega
        · rw [lit_empty, join_signs]
          refine hq cs ?_
          have hs : ∀ c ∈ cs, c ∈ signsL ∧ c ≠ 39 := fun c hc => textL_ok c (hin c hc)
          unfold isText isStrg
          simp
          exact ⟨⟨⟨by omega, fun x hx => (hs x hx).1⟩, by omega⟩, fun z => (hs 39 z).2 rfl⟩
    · split
      · exact ⟨cdiv_small (by omega) (by omega), fun l hl => hq l (isText_name hl)⟩
      · obtain ⟨d, e, l, hl, rfl⟩ := atI_all (P := fun d => ∃ l, isText l = true ∧ d = strD l) texts_ok (i := (m.fmod 13).fmod 12) (by have := m4 (m.fmod 13); exact this)
        rw [e]
        exact hq l hl
  · exact h.elim
theorem w__law_value : ∀ ds μ Q QX, μ.wf → objBs μ.next ds = true → sp__law_value ds μ Q QX → ds.length = 1 ∧ wpS c__law_value (startE N__law_value ds) μ (outs μ.next Q QX) := by
  intro ds μ Q QX hw ho h
  unfold sp__law_value at h
  split at h
  · rename_i m
    refine ⟨rfl, ?_⟩
    have hi : ∀ i : Int, -2147483648 ≤ i → i ≤ 2147483647 → finP μ.next Q (.int i) μ := fun i h1 h2 => fin_same hw rfl (h _ (.inr ⟨i, h1, h2, rfl⟩))
    have hq : ∀ l, isText l = true → finP μ.next Q (strD l) μ := fun l hl => fin_same hw rfl (h _ (.inl ⟨l, hl, rfl⟩))
    have m1 : ∀ a : Int, 0 ≤ a.fmod 7 ∧ a.fmod 7 < 7 := fun a => fmod_lt (by omega)
    have m2 : ∀ a : Int, 0 ≤ a.fmod 4294967296 ∧ a.fmod 4294967296 < 4294967296 := fun a => fmod_lt (by omega)
    simp [startE, wpS, wpT, wpE, wpA, wpI, wpG, wpGs, wpOpt, spLen, spIsi, spInt, spStr, spTup, spLst, spMax, spApp, spFind, spSplit, spJoin, spDget, tn_str, tn_int, tn_bl, tn_non, tn_tup, tn_lst, tn_scr, td_str, td_lst, isB, tys, truD, cmpD, binD, slD, ixD, outs, eAllS, eAllN, eMaxD, eGin, eGinT, eGix, eRse, eCal0, drf, sq_tup, sq_lst, sq_scr, sq_str, sq_int, sq_non, l_lst, l_scr, l_tup, lm_lst, lm_str, lm_int, lm_tup, lm_non, lm_bl, eqOk_str, eqOk_int, eqOk_non, deq_int, deq_str, two_le, isNonD, tysOf, c__law_value, N__law_value, sp__law_text]
    split
    · have := m1 (m.fdiv 5)
      exact ⟨cdiv_small (by omega) (by omega), hi _ (by omega) (by omega)⟩
    · split
      · have := m2 (m * 5113 * 40503 + 12345)
        exact ⟨cmul_r (by omega) (by omega), cmul_r (by omega) (by omega), hi _ (by omega) (by omega)⟩
      · split
        · refine ⟨by rw [sizeLine_eq]; omega, cdiv_small (by omega) (by omega), ?_⟩
          obtain ⟨d, e, i, h1, h2, rfl⟩ := atI_all (P := fun d => ∃ i : Int, -2147483648 ≤ i ∧ i ≤ 2147483647 ∧ d = .int i) ints_ok (i := (m.fdiv 5).fmod 7) (m1 _)
          rw [e]
          exact hi i h1 h2
        · exact ⟨cdiv_small (by omega) (by omega), hq⟩
  · exact h.elim
theorem w__law_term : ∀ ds μ Q QX, μ.wf → objBs μ.next ds = true → sp__law_term ds μ Q QX → ds.length = 2 ∧ wpS c__law_term (startE N__law_term ds) μ (outs μ.next Q QX) := by
  intro ds μ Q QX hw ho h
  unfold sp__law_term at h
  split at h
  · rename_i m u
    refine ⟨rfl, ?_⟩
    obtain ⟨h0, h4, h⟩ := h
    have hq : ∀ d, termOk u d → finP μ.next Q d μ := fun d hd => fin_same hw (by
      rcases hd with ⟨m, _, _, _, rfl⟩ | ⟨l, _, rfl⟩ | ⟨i, _, _, rfl⟩ <;> rfl) (h d hd)
    have hpar : ∀ m : Int, 1 ≤ m → m ≤ u + 1 → m ≤ 4 → finP μ.next Q (.tup [.str "parameter", .int m]) μ := fun m h1 h2 h3 => hq _ (.inl ⟨m, h1, h2, h3, rfl⟩)
    simp [startE, wpS, wpT, wpE, wpA, wpI, wpG, wpGs, wpOpt, spLen, spIsi, spInt, spStr, spTup, spLst, spMax, spApp, spFind, spSplit, spJoin, spDget, tn_str, tn_int, tn_bl, tn_non, tn_tup, tn_lst, tn_scr, td_str, td_lst, isB, tys, truD, cmpD, binD, slD, ixD, outs, eAllS, eAllN, eMaxD, eGin, eGinT, eGix, eRse, eCal0, drf, sq_tup, sq_lst, sq_scr, sq_str, sq_int, sq_non, l_lst, l_scr, l_tup, lm_lst, lm_str, lm_int, lm_tup, lm_non, lm_bl, eqOk_str, eqOk_int, eqOk_non, deq_int, deq_str, two_le, isNonD, tysOf, c__law_term, N__law_term, sp__law_value]
    have fin : CDivN m 7 ∧ ∀ d, valOk d → match tyName d μ with
        | some a => if a = "str" then finP μ.next Q (.tup [.str "text", d]) μ else finP μ.next Q d μ
        | none => False := by
      refine ⟨cdiv_small (by omega) (by omega), fun d hd => ?_⟩
      rcases hd with ⟨l, hl, rfl⟩ | ⟨i, h1, h2, rfl⟩
      · exact hq _ (.inr (.inl ⟨l, hl, rfl⟩))
      · exact hq _ (.inr (.inr ⟨i, h1, h2, rfl⟩))
    have p2 : 0 < u → CDivN m 7 ∧ ¬u = 0 ∧ finP μ.next Q (.tup [.str "parameter", .int (1 + (m.fdiv 7).fmod u)]) μ := fun hu => by
      have := fmod_lt (a := m.fdiv 7) hu
      exact ⟨cdiv_small (by omega) (by omega), by omega, hpar _ (by omega) (by omega) (by omega)⟩
    repeat' split
    all_goals first | exact hpar _ (by omega) (by omega) (by omega) | exact p2 (by assumption) | exact fin
  · exact h.elim
theorem w__law_used : ∀ ds μ Q QX, μ.wf → objBs μ.next ds = true → sp__law_used ds μ Q QX → ds.length = 1 ∧ wpS c__law_used (startE N__law_used ds) μ (outs μ.next Q QX) := by
  intro ds μ Q QX hw ho h
  unfold sp__law_used at h
  split at h
  · rename_i d
    refine ⟨rfl, ?_⟩
    obtain ⟨xs, h1, h2, h3, h4⟩ := h
    have hq : finP μ.next Q (.int (maxI 0 (0 :: parNs xs))) μ := fin_same hw rfl h4
    simp [startE, wpS, wpT, wpE, wpA, wpI, wpG, wpGs, wpOpt, spLen, spIsi, spInt, spStr, spTup, spLst, spMax, spApp, spFind, spSplit, spJoin, spDget, tn_str, tn_int, tn_bl, tn_non, tn_tup, tn_lst, tn_scr, td_str, td_lst, isB, tys, truD, cmpD, binD, slD, ixD, outs, eAllS, eAllN, eMaxD, eGin, eGinT, eGix, eRse, eCal0, drf, sq_tup, sq_lst, sq_scr, sq_str, sq_int, sq_non, l_lst, l_scr, l_tup, lm_lst, lm_str, lm_int, lm_tup, lm_non, lm_bl, eqOk_str, eqOk_int, eqOk_non, deq_int, deq_str, two_le, isNonD, tysOf, c__law_used, N__law_used, wipeE]
    refine itD_of h1 fun gd hg => loopC_pure (fun x => (parN x).map D.int) hg (fun x hx N hN => ?_) (by simp; omega) ?_
    · have hx := List.all_eq_true.mp h3 x hx
      unfold okItemT at hx
      split at hx
      · simp [startE, wpS, wpT, wpE, wpA, wpI, wpG, wpGs, wpOpt, spLen, spIsi, spInt, spStr, spTup, spLst, spMax, spApp, spFind, spSplit, spJoin, spDget, tn_str, tn_int, tn_bl, tn_non, tn_tup, tn_lst, tn_scr, td_str, td_lst, isB, tys, truD, cmpD, binD, slD, ixD, outs, eAllS, eAllN, eMaxD, eGin, eGinT, eGix, eRse, eCal0, drf, sq_tup, sq_lst, sq_scr, sq_str, sq_int, sq_non, l_lst, l_scr, l_tup, lm_lst, lm_str, lm_int, lm_tup, lm_non, lm_bl, eqOk_str, eqOk_int, eqOk_non, deq_int, deq_str, two_le, isNonD, tysOf, atI_zero]
        exact hN
      · simp [startE, wpS, wpT, wpE, wpA, wpI, wpG, wpGs, wpOpt, spLen, spIsi, spInt, spStr, spTup, spLst, spMax, spApp, spFind, spSplit, spJoin, spDget, tn_str, tn_int, tn_bl, tn_non, tn_tup, tn_lst, tn_scr, td_str, td_lst, isB, tys, truD, cmpD, binD, slD, ixD, outs, eAllS, eAllN, eMaxD, eGin, eGinT, eGix, eRse, eCal0, drf, sq_tup, sq_lst, sq_scr, sq_str, sq_int, sq_non, l_lst, l_scr, l_tup, lm_lst, lm_str, lm_int, lm_tup, lm_non, lm_bl, eqOk_str, eqOk_int, eqOk_non, deq_int, deq_str, two_le, isNonD, tysOf, atI_zero]
        exact hN
      · rename_i k n hmem
        simp [startE, wpS, wpT, wpE, wpA, wpI, wpG, wpGs, wpOpt, spLen, spIsi, spInt, spStr, spTup, spLst, spMax, spApp, spFind, spSplit, spJoin, spDget, tn_str, tn_int, tn_bl, tn_non, tn_tup, tn_lst, tn_scr, td_str, td_lst, isB, tys, truD, cmpD, binD, slD, ixD, outs, eAllS, eAllN, eMaxD, eGin, eGinT, eGix, eRse, eCal0, drf, sq_tup, sq_lst, sq_scr, sq_str, sq_int, sq_non, l_lst, l_scr, l_tup, lm_lst, lm_str, lm_int, lm_tup, lm_non, lm_bl, eqOk_str, eqOk_int, eqOk_non, deq_int, deq_str, two_le, isNonD, tysOf, atI_zero, atI_one]
        simp only [parN] at hN
        split
        · rename_i e
          rw [if_pos e] at hN
          exact hN
        · rename_i e
          rw [if_neg e] at hN
          exact hN
      · rename_i k n hmem
        have e := of_decide_eq_true hx
        simp [startE, wpS, wpT, wpE, wpA, wpI, wpG, wpGs, wpOpt, spLen, spIsi, spInt, spStr, spTup, spLst, spMax, spApp, spFind, spSplit, spJoin, spDget, tn_str, tn_int, tn_bl, tn_non, tn_tup, tn_lst, tn_scr, td_str, td_lst, isB, tys, truD, cmpD, binD, slD, ixD, outs, eAllS, eAllN, eMaxD, eGin, eGinT, eGix, eRse, eCal0, drf, sq_tup, sq_lst, sq_scr, sq_str, sq_int, sq_non, l_lst, l_scr, l_tup, lm_lst, lm_str, lm_int, lm_tup, lm_non, lm_bl, eqOk_str, eqOk_int, eqOk_non, deq_int, deq_str, two_le, isNonD, tysOf, atI_zero, e]
        exact hN
      · cases hx
    · have e : xs.filterMap (fun x => (parN x).map D.int) = (parNs xs).map D.int := by
        unfold parNs
        rw [List.map_filterMap]
      have hl : (parNs xs).length ≤ xs.length := List.length_filterMap_le _ _
      rw [List.nil_append, e]
      simp [startE, wpS, wpT, wpE, wpA, wpI, wpG, wpGs, wpOpt, spLen, spIsi, spInt, spStr, spTup, spLst, spMax, spApp, spFind, spSplit, spJoin, spDget, tn_str, tn_int, tn_bl, tn_non, tn_tup, tn_lst, tn_scr, td_str, td_lst, isB, tys, truD, cmpD, binD, slD, ixD, outs, eAllS, eAllN, eMaxD, eGin, eGinT, eGix, eRse, eCal0, drf, sq_tup, sq_lst, sq_scr, sq_str, sq_int, sq_non, l_lst, l_scr, l_tup, lm_lst, lm_str, lm_int, lm_tup, lm_non, lm_bl, eqOk_str, eqOk_int, eqOk_non, deq_int, deq_str, two_le, isNonD, tysOf, ]
      refine ⟨by omega, by omega, 0 :: parNs xs, by simp, by simp, ?_⟩
      exact hq
  · exact h.elim
end M
end

section
set_option Elab.async false
set_option linter.all false
set_option maxRecDepth 100000
set_option maxHeartbeats 4000000
set_option autoImplicit false
namespace M
open PySem PySem.Spec PyProof.Rows L2
open SX (S S_len S_cat)
theorem ixN_last (n : Nat) : ixN (n + 1) (-1) = some n := by
  unfold ixN
  rw [if_neg (by omega), if_pos (by omega)]
  congr 1
  omega
theorem set_last {α : Type} (L : List α) (x y : α) : (L ++ [x]).set L.length y = L ++ [y] := by
  rw [List.set_append_right _ _ (Nat.le_refl _), Nat.sub_self]
  rfl
theorem w__law_listed : ∀ ds μ Q QX, μ.wf → objBs μ.next ds = true → sp__law_listed ds μ Q QX → ds.length = 1 ∧ wpS c__law_listed (startE N__law_listed ds) μ (outs μ.next Q QX) := by
  intro ds μ Q QX hw ho h
  unfold sp__law_listed at h
  split at h
  · rename_i xs
    refine ⟨rfl, ?_⟩
    obtain ⟨h1, h2, h3⟩ := h
    simp [startE, wpS, wpT, wpE, wpA, wpI, wpG, wpGs, wpOpt, spLen, spIsi, spInt, spStr, spTup, spLst, spMax, spApp, spFind, spSplit, spJoin, spDget, tn_str, tn_int, tn_bl, tn_non, tn_tup, tn_lst, tn_scr, td_str, td_lst, isB, tys, truD, cmpD, binD, slD, ixD, outs, eAllS, eAllN, eMaxD, eGin, eGinT, eGix, eRse, eCal0, drf, sq_tup, sq_lst, sq_scr, sq_str, sq_int, sq_non, l_lst, l_scr, l_tup, lm_lst, lm_str, lm_int, lm_tup, lm_non, lm_bl, eqOk_str, eqOk_int, eqOk_non, deq_int, deq_str, two_le, isNonD, tysOf, c__law_listed, N__law_listed, it_tup]
    refine for_gen (fun i δ μ' => ∃ (o : Option D), δ = [some (.tup xs), some (.obj μ.next), o] ∧ μ.Part μ' ∧ μ'.cell μ.next = some (.lst ((xs.take i).map listed))) ⟨_, rfl, part_mk hw (part_self hw), by rw [Sto.new_same]; rfl⟩ ?_ ?_
    · rintro i x LW hx hLW δ μ' ⟨o, rfl, q1, q2⟩
      have hi : i < xs.length := (List.getElem?_eq_some_iff.mp hx).1
      have hz : ((xs.take i).map listed).length < sizeLine := by rw [List.length_map, List.length_take, sizeLine_eq]; omega
      have ht : (xs.take (i + 1)).map listed = (xs.take i).map listed ++ [listed x] := by
        rw [List.take_add_one, hx]
        simp
      have hmem : x ∈ xs := List.mem_of_getElem? hx
      refine ⟨trivial, ?_⟩
      have hlen : ((xs.take i).map listed).length = i := by rw [List.length_map, List.length_take]; omega
      generalize (xs.take i).map listed = L at q2 hz ht hlen
      simp [startE, wpS, wpT, wpE, wpA, wpI, wpG, wpGs, wpOpt, spLen, spIsi, spInt, spStr, spTup, spLst, spMax, spApp, spFind, spSplit, spJoin, spDget, tn_str, tn_int, tn_bl, tn_non, tn_tup, tn_lst, tn_scr, td_str, td_lst, isB, tys, truD, cmpD, binD, slD, ixD, outs, eAllS, eAllN, eMaxD, eGin, eGinT, eGix, eRse, eCal0, drf, sq_tup, sq_lst, sq_scr, sq_str, sq_int, sq_non, l_lst, l_scr, l_tup, lm_lst, lm_str, lm_int, lm_tup, lm_non, lm_bl, eqOk_str, eqOk_int, eqOk_non, deq_int, deq_str, two_le, isNonD, tysOf, b1__law_listed, td_obj q2, q2, hz]
      rcases h2 x hmem with ⟨l, rfl⟩ | ⟨n, _, rfl⟩ | ⟨l, rfl⟩ | ⟨n, _, rfl⟩
      · simp [startE, wpS, wpT, wpE, wpA, wpI, wpG, wpGs, wpOpt, spLen, spIsi, spInt, spStr, spTup, spLst, spMax, spApp, spFind, spSplit, spJoin, spDget, tn_str, tn_int, tn_bl, tn_non, tn_tup, tn_lst, tn_scr, td_str, td_lst, isB, tys, truD, cmpD, binD, slD, ixD, outs, eAllS, eAllN, eMaxD, eGin, eGinT, eGix, eRse, eCal0, drf, sq_tup, sq_lst, sq_scr, sq_str, sq_int, sq_non, l_lst, l_scr, l_tup, lm_lst, lm_str, lm_int, lm_tup, lm_non, lm_bl, eqOk_str, eqOk_int, eqOk_non, deq_int, deq_str, two_le, isNonD, tysOf, strD]
        exact hLW _ _ ⟨_, rfl, part_put hw q1 (Nat.le_refl _), by rw [Sto.put_same, ht]; rfl⟩
      · simp [startE, wpS, wpT, wpE, wpA, wpI, wpG, wpGs, wpOpt, spLen, spIsi, spInt, spStr, spTup, spLst, spMax, spApp, spFind, spSplit, spJoin, spDget, tn_str, tn_int, tn_bl, tn_non, tn_tup, tn_lst, tn_scr, td_str, td_lst, isB, tys, truD, cmpD, binD, slD, ixD, outs, eAllS, eAllN, eMaxD, eGin, eGinT, eGix, eRse, eCal0, drf, sq_tup, sq_lst, sq_scr, sq_str, sq_int, sq_non, l_lst, l_scr, l_tup, lm_lst, lm_str, lm_int, lm_tup, lm_non, lm_bl, eqOk_str, eqOk_int, eqOk_non, deq_int, deq_str, two_le, isNonD, tysOf, ]
        exact hLW _ _ ⟨_, rfl, part_put hw q1 (Nat.le_refl _), by rw [Sto.put_same, ht]; rfl⟩
      · simp [startE, wpS, wpT, wpE, wpA, wpI, wpG, wpGs, wpOpt, spLen, spIsi, spInt, spStr, spTup, spLst, spMax, spApp, spFind, spSplit, spJoin, spDget, tn_str, tn_int, tn_bl, tn_non, tn_tup, tn_lst, tn_scr, td_str, td_lst, isB, tys, truD, cmpD, binD, slD, ixD, outs, eAllS, eAllN, eMaxD, eGin, eGinT, eGix, eRse, eCal0, drf, sq_tup, sq_lst, sq_scr, sq_str, sq_int, sq_non, l_lst, l_scr, l_tup, lm_lst, lm_str, lm_int, lm_tup, lm_non, lm_bl, eqOk_str, eqOk_int, eqOk_non, deq_int, deq_str, two_le, isNonD, tysOf, txtD, Sto.put_same, ixN_last]
        exact hLW _ _ ⟨_, rfl, part_put hw (part_put hw q1 (Nat.le_refl _)) (Nat.le_refl _), by rw [Sto.put_same, ht]; rfl⟩
      · simp [startE, wpS, wpT, wpE, wpA, wpI, wpG, wpGs, wpOpt, spLen, spIsi, spInt, spStr, spTup, spLst, spMax, spApp, spFind, spSplit, spJoin, spDget, tn_str, tn_int, tn_bl, tn_non, tn_tup, tn_lst, tn_scr, td_str, td_lst, isB, tys, truD, cmpD, binD, slD, ixD, outs, eAllS, eAllN, eMaxD, eGin, eGinT, eGix, eRse, eCal0, drf, sq_tup, sq_lst, sq_scr, sq_str, sq_int, sq_non, l_lst, l_scr, l_tup, lm_lst, lm_str, lm_int, lm_tup, lm_non, lm_bl, eqOk_str, eqOk_int, eqOk_non, deq_int, deq_str, two_le, isNonD, tysOf, parD, Sto.put_same, ixN_last]
        exact hLW _ _ ⟨_, rfl, part_put hw (part_put hw q1 (Nat.le_refl _)) (Nat.le_refl _), by rw [Sto.put_same, ht]; rfl⟩
    · rintro δ μ' ⟨o, rfl, q1, q2⟩
      refine ⟨trivial, ?_⟩
      rw [List.take_length] at q2
      simp [q2]
      refine fin_part (part_del hw q1 (Nat.le_refl _)) ?_ h3
      show objBs μ.next (xs.map listed) = true
      have ho2 : objBs μ.next xs = true := by
        have : (objBs μ.next xs && true) = true := ho
        simpa using this
      clear h1 h2 h3 q2 ho
      induction xs with
      | nil => rfl
      | cons x xs ih =>
        have : (objB μ.next x && objBs μ.next xs) = true := ho2
        rw [Bool.and_eq_true] at this
        show (objB μ.next (listed x) && objBs μ.next (xs.map listed)) = true
        rw [ih this.2, Bool.and_true]
        have e := this.1
        cases x <;> exact e
  · exact h.elim
theorem lg2 {i : Int} (h : i.natAbs < 2 ^ 40) : i.natAbs.log2 < 1920 := by
  by_cases h0 : i.natAbs = 0
  · rw [h0]; decide
  · have := (Nat.log2_lt h0).mpr h
    omega
theorem numT_str (i : Int) : Str.ofString (toString i) = S (numT i) := (SX.S_tl _).symm
theorem numT_small {i : Int} (h : i.natAbs < 2 ^ 40) (hl : (numT i).length ≤ 1000) : (numT i).length + 1 ≤ sizeLine := by rw [sizeLine_eq]; omega
theorem w__law_written : ∀ ds μ Q QX, μ.wf → objBs μ.next ds = true → sp__law_written ds μ Q QX → ds.length = 1 ∧ wpS c__law_written (startE N__law_written ds) μ (outs μ.next Q QX) := by
  intro ds μ Q QX hw ho h
  unfold sp__law_written at h
  split at h
  · rename_i xs
    refine ⟨rfl, ?_⟩
    obtain ⟨h1, h2, h3⟩ := h
    have hsz : sizeLine = 16777216 := sizeLine_eq
    simp [startE, wpS, wpT, wpE, wpA, wpI, wpG, wpGs, wpOpt, spLen, spIsi, spInt, spStr, spTup, spLst, spMax, spApp, spFind, spSplit, spJoin, spDget, tn_str, tn_int, tn_bl, tn_non, tn_tup, tn_lst, tn_scr, td_str, td_lst, isB, tys, truD, cmpD, binD, slD, ixD, outs, eAllS, eAllN, eMaxD, eGin, eGinT, eGix, eRse, eCal0, drf, sq_tup, sq_lst, sq_scr, sq_str, sq_int, sq_non, l_lst, l_scr, l_tup, lm_lst, lm_str, lm_int, lm_tup, lm_non, lm_bl, eqOk_str, eqOk_int, eqOk_non, deq_int, deq_str, two_le, isNonD, tysOf, c__law_written, N__law_written, it_tup]
    refine for_gen (fun i δ μ' => ∃ (o : Option D), δ = [some (.tup xs), some (.obj μ.next), o] ∧ μ.Part μ' ∧ μ'.cell μ.next = some (.lst (((xs.take i).map tok).map strD))) ⟨_, rfl, part_mk hw (part_self hw), by rw [Sto.new_same]; rfl⟩ ?_ ?_
    · rintro i x LW hx hLW δ μ' ⟨o, rfl, q1, q2⟩
      have hi : i < xs.length := (List.getElem?_eq_some_iff.mp hx).1
      have hz : (((xs.take i).map tok).map strD).length < sizeLine := by rw [List.length_map, List.length_map, List.length_take]; omega
      have ht : ((xs.take (i + 1)).map tok).map strD = ((xs.take i).map tok).map strD ++ [strD (tok x)] := by
        rw [List.take_add_one, hx]
        simp
      have hmem : x ∈ xs := List.mem_of_getElem? hx
      refine ⟨trivial, ?_⟩
      generalize ((xs.take i).map tok).map strD = L at q2 hz ht
      obtain ⟨hwr, hlen⟩ := h2 x hmem
      have next : ∀ (o : Option D), LW [some (.tup xs), some (.obj μ.next), o] (μ'.put μ.next (.lst (L ++ [strD (tok x)]))) := fun o => hLW _ _ ⟨o, rfl, part_put hw q1 (Nat.le_refl _), by rw [Sto.put_same, ht]⟩
      rcases hwr with ⟨l, rfl⟩ | ⟨n, hn, rfl⟩ | ⟨l, rfl⟩ | ⟨n, hn, rfl⟩
      · simp [startE, wpS, wpT, wpE, wpA, wpI, wpG, wpGs, wpOpt, spLen, spIsi, spInt, spStr, spTup, spLst, spMax, spApp, spFind, spSplit, spJoin, spDget, tn_str, tn_int, tn_bl, tn_non, tn_tup, tn_lst, tn_scr, td_str, td_lst, isB, tys, truD, cmpD, binD, slD, ixD, outs, eAllS, eAllN, eMaxD, eGin, eGinT, eGix, eRse, eCal0, drf, sq_tup, sq_lst, sq_scr, sq_str, sq_int, sq_non, l_lst, l_scr, l_tup, lm_lst, lm_str, lm_int, lm_tup, lm_non, lm_bl, eqOk_str, eqOk_int, eqOk_non, deq_int, deq_str, two_le, isNonD, tysOf, b1__law_written, strD, td_obj q2, q2, hz]
        exact next _
      · simp [startE, wpS, wpT, wpE, wpA, wpI, wpG, wpGs, wpOpt, spLen, spIsi, spInt, spStr, spTup, spLst, spMax, spApp, spFind, spSplit, spJoin, spDget, tn_str, tn_int, tn_bl, tn_non, tn_tup, tn_lst, tn_scr, td_str, td_lst, isB, tys, truD, cmpD, binD, slD, ixD, outs, eAllS, eAllN, eMaxD, eGin, eGinT, eGix, eRse, eCal0, drf, sq_tup, sq_lst, sq_scr, sq_str, sq_int, sq_non, l_lst, l_scr, l_tup, lm_lst, lm_str, lm_int, lm_tup, lm_non, lm_bl, eqOk_str, eqOk_int, eqOk_non, deq_int, deq_str, two_le, isNonD, tysOf, b1__law_written, td_obj q2, q2, hz, lg2 hn]
        have := next (some (.int n))
        rw [show strD (tok (.int n)) = .str (Str.ofString (toString n)) by rw [numT_str]; rfl] at this
        exact this
      · have hl : l.length ≤ 1000 := by
          have : (tok (txtD l)).length = l.length + 2 := by show (39 :: (l ++ [39])).length = _; simp
          omega
        have e : strD (tok (txtD l)) = .str (Str.ofString "'" ++ S l ++ Str.ofString "'") := by
          rw [lit_quote, S_cat, S_cat]
          rfl
        have := next (some (txtD l))
        rw [e] at this
        simp [startE, wpS, wpT, wpE, wpA, wpI, wpG, wpGs, wpOpt, spLen, spIsi, spInt, spStr, spTup, spLst, spMax, spApp, spFind, spSplit, spJoin, spDget, tn_str, tn_int, tn_bl, tn_non, tn_tup, tn_lst, tn_scr, td_str, td_lst, isB, tys, truD, cmpD, binD, slD, ixD, outs, eAllS, eAllN, eMaxD, eGin, eGinT, eGix, eRse, eCal0, drf, sq_tup, sq_lst, sq_scr, sq_str, sq_int, sq_non, l_lst, l_scr, l_tup, lm_lst, lm_str, lm_int, lm_tup, lm_non, lm_bl, eqOk_str, eqOk_int, eqOk_non, deq_int, deq_str, two_le, isNonD, tysOf, b1__law_written, txtD, td_obj q2, q2, hz, atI_zero, atI_one, S_len]
        refine ⟨by rw [show (Str.ofString "'").length = 1 by decide +kernel]; omega, ?_, this⟩
        rw [lit_quote, S_cat, S_len, S_len]
        simp
        omega
      · have hl : (numT n).length ≤ 1000 := by
          have : (tok (parD n)).length = (numT n).length + 1 := rfl
          omega
        have e : strD (tok (parD n)) = .str (Str.ofString "$" ++ Str.ofString (toString n)) := by
          rw [lit_dollar, numT_str, S_cat]
          rfl
        have := next (some (parD n))
        rw [e] at this
        have e1 : ¬ Str.ofString "parameter" = Str.ofString "text" := by decide +kernel
        simp [startE, wpS, wpT, wpE, wpA, wpI, wpG, wpGs, wpOpt, spLen, spIsi, spInt, spStr, spTup, spLst, spMax, spApp, spFind, spSplit, spJoin, spDget, tn_str, tn_int, tn_bl, tn_non, tn_tup, tn_lst, tn_scr, td_str, td_lst, isB, tys, truD, cmpD, binD, slD, ixD, outs, eAllS, eAllN, eMaxD, eGin, eGinT, eGix, eRse, eCal0, drf, sq_tup, sq_lst, sq_scr, sq_str, sq_int, sq_non, l_lst, l_scr, l_tup, lm_lst, lm_str, lm_int, lm_tup, lm_non, lm_bl, eqOk_str, eqOk_int, eqOk_non, deq_int, deq_str, two_le, isNonD, tysOf, b1__law_written, parD, td_obj q2, q2, hz, atI_zero, atI_one, lg2 hn, e1]
        refine ⟨?_, this⟩
        show (Str.ofString "$").length + (Str.ofString (toString n)).length ≤ sizeLine
        rw [lit_dollar, numT_str, S_len, S_len]
        simp
        omega
    · rintro δ μ' ⟨o, rfl, q1, q2⟩
      refine ⟨trivial, ?_⟩
      rw [List.take_length] at q2
      have hq : finP μ.next Q (strD (written xs)) μ' := fin_part q1 rfl h3
      simp [q2, spJoin, tyD]
      refine ⟨(xs.map tok).map S, ?_, ?_, ?_⟩
      · rw [sq_obj q2]
        congr 1
        rw [List.map_map, List.map_map, List.map_map]
        rfl
      · have : ∀ ys : List D, (∀ y ∈ ys, (tok y).length ≤ 1000) → (((ys.map tok).map S).map (·.length)).sum ≤ ys.length * 1000 := by
          intro ys
          induction ys with
          | nil => intro _; simp
          | cons y ys ih =>
            intro hy
            have a1 := hy y (by simp)
            have a2 := ih fun z hz => hy z (by simp [hz])
            rw [List.map_cons, List.map_cons, List.map_cons, List.sum_cons, List.length_cons, S_len]
            omega
        have a := this xs fun y hy => (h2 y hy).2
        rw [show (Str.ofString " ").length = 1 by decide +kernel, List.length_map, List.length_map]
        have : (((xs.map tok).map S).map fun x => x.length).sum ≤ xs.length * 1000 := a
        omega
      · rw [lit_space, SX.join_S]
        exact hq
  · exact h.elim
end M
end

section
set_option Elab.async false
set_option linter.all false
set_option maxRecDepth 100000
set_option maxHeartbeats 4000000
set_option autoImplicit false
namespace M
open PySem PySem.Spec PyProof.Rows L2
open SX (S S_len S_cat)
theorem maxI_spec {z : Int} {ns : List Int} (h : ns ≠ []) : maxI z ns ∈ ns ∧ ∀ y ∈ ns, y ≤ maxI z ns := by
  cases ns with
  | nil => exact absurd rfl h
  | cons n ns => exact foldl_max ns n
def contig (ns : List Int) : Prop := ∀ m : Int, 1 ≤ m → m ≤ maxI 0 ns → m ∈ ns
theorem contig_snoc {ns : List Int} {m : Int} (h : contig ns) (h1 : 1 ≤ m) (h2 : m ≤ maxI 0 ns + 1) : contig (ns ++ [m]) := by
  intro j hj1 hj2
  obtain ⟨hx, _⟩ := maxI_spec (z := 0) (ns := ns ++ [m]) (by simp)
  have hcase : j ≤ maxI 0 ns ∨ j = m := by
    rcases List.mem_append.mp hx with z | z
    · have hne : ns ≠ [] := fun e => by rw [e] at z; cases z
      have := (maxI_spec (z := 0) hne).2 _ z
      omega
    · rw [List.mem_singleton] at z
      omega
  rcases hcase with hc | hc
  · exact List.mem_append_left _ (h j hj1 hc)
  · rw [hc]
    simp
theorem parNs_app (xs ys : List D) : parNs (xs ++ ys) = parNs xs ++ parNs ys := List.filterMap_append
theorem parNs_strs (w n : List Nat) (ts : List D) : parNs (strD w :: strD n :: ts) = parNs ts := rfl
theorem parN_parD (m : Int) : parN (parD m) = some m := by
  unfold parD parN
  exact if_pos rfl
theorem parN_txtD (l : List Nat) : parN (txtD l) = none := rfl
theorem maxI_zero {ns : List Int} (h : ∀ n ∈ ns, 0 ≤ n) : maxI 0 (0 :: ns) = maxI 0 ns := by
  symm
  refine maxI_of (z := 0) (.inr ?_)
  cases ns with
  | nil => exact ⟨by simp [maxI], fun y hy => by simp at hy; rw [hy]; exact Int.le_refl 0⟩
  | cons n r =>
    obtain ⟨a, b⟩ := maxI_spec (z := 0) (ns := n :: r) (by simp)
    refine ⟨List.mem_cons_of_mem _ a, fun y hy => ?_⟩
    rcases List.mem_cons.mp hy with rfl | z
    · exact h _ a
    · exact b y z
theorem termOk_mono {u v : Int} {d : D} (h : termOk u d) (hv : u ≤ v) : termOk v d := by
  rcases h with ⟨m, h1, h2, h3, e⟩ | h | h
  · exact .inl ⟨m, h1, by omega, h3, e⟩
  · exact .inr (.inl h)
  · exact .inr (.inr h)
theorem termOk_par {u : Int} {d : D} {n : Int} (h : termOk u d) (e : parN d = some n) : 1 ≤ n ∧ n ≤ u + 1 ∧ n ≤ 4 := by
  rcases h with ⟨m, h1, h2, h3, rfl⟩ | ⟨l, _, rfl⟩ | ⟨i, _, _, rfl⟩
  · rw [parN_parD] at e
    cases e
    exact ⟨h1, h2, h3⟩
  · cases e
  · cases e
theorem termOk_objB {u : Int} {d : D} (n : Nat) (h : termOk u d) : objB n d = true := by
  rcases h with ⟨m, _, _, _, rfl⟩ | ⟨l, _, rfl⟩ | ⟨i, _, _, rfl⟩ <;> rfl
theorem termOk_item {u : Int} {d : D} (h : termOk u d) : okItemT d = true := by
  rcases h with ⟨m, _, _, _, rfl⟩ | ⟨l, _, rfl⟩ | ⟨i, _, _, rfl⟩
  · rfl
  · show decide (Str.ofString "text" ≠ Str.ofString "parameter") = true
    decide +kernel
  · rfl
theorem parNs_range {ts : List D} (h : ∀ t ∈ ts, termOk 3 t) : ∀ n ∈ parNs ts, 1 ≤ n ∧ n ≤ 4 := fun n hn => by
  obtain ⟨d, hd, e⟩ := List.mem_filterMap.mp hn
  have := termOk_par (h d hd) e
  omega
theorem objBs_all (n : Nat) : ∀ {xs : List D}, (∀ x ∈ xs, objB n x = true) → objBs n xs = true
  | [], _ => rfl
  | x :: xs, h => by
    show (objB n x && objBs n xs) = true
    rw [h x (by simp), objBs_all n fun y hy => h y (by simp [hy])]
    rfl
theorem stmtOk_objB {ds : List D} (n : Nat) (h : stmtOk ds) : objBs n ds = true := by
  rcases h with ⟨w, _, _, rfl⟩ | ⟨w, m, ts, _, _, _, _, h, _, rfl⟩
  · rfl
  · refine objBs_all n fun x hx => ?_
    rcases List.mem_cons.mp hx with rfl | hx
    · rfl
    · rcases List.mem_cons.mp hx with rfl | hx
      · rfl
      · exact termOk_objB n (h x hx)
def wordsD : List D := [D.str "create", D.str "put", D.str "put", D.str "scan", D.str "begin", D.str "commit", D.str "put", D.str "get", D.str "delete", D.str "total", D.str "scan", D.str "save", D.str "undo", D.str "rollback", D.str "drop", D.str "create", D.str "put", D.str "begin", D.str "save", D.str "undo", D.str "scan"]
def dictD (x : Int) : List (Key × D) := [(.inr "put", .int 2), (.inr "get", .int 1), (.inr "delete", .int 1), (.inr "scan", .int x)]
def oneB (d : D) : Bool := [D.str "begin", D.str "commit", D.str "rollback"].any fun y => deq y d
def wordKind (w : List Nat) : Prop := (oneB (strD w) = true ∧ formOk w 0 = true) ∨ (oneB (strD w) = false ∧ ((∃ k : Nat, k ≤ 2 ∧ formOk w (k + 1) = true ∧ ∀ x, (valD (dictD x) (.inr (S w))).getD (.int 0) = .int k) ∨ (formOk w 1 = true ∧ formOk w 3 = true ∧ ∀ x, (valD (dictD x) (.inr (S w))).getD (.int 0) = .int x)))
theorem words_ok : ∀ d ∈ wordsD, ∃ w, d = strD w ∧ isName w = true ∧ wordKind w := by
  have mk : ∀ x : Str, isName x.cps.toList = true → wordKind x.cps.toList → ∃ w, D.str x = strD w ∧ isName w = true ∧ wordKind w := fun x h k => ⟨x.cps.toList, by rw [strD, SX.S_tl], h, k⟩
  have one : ∀ x : Str, isName x.cps.toList = true → oneB (strD x.cps.toList) = true → formOk x.cps.toList 0 = true → ∃ w, D.str x = strD w ∧ isName w = true ∧ wordKind w := fun x h a b => mk x h (.inl ⟨a, b⟩)
  have fix : ∀ (x : Str) (k : Nat), isName x.cps.toList = true → oneB (strD x.cps.toList) = false → k ≤ 2 → formOk x.cps.toList (k + 1) = true → (∀ y, (valD (dictD y) (.inr (S x.cps.toList))).getD (.int 0) = .int k) → ∃ w, D.str x = strD w ∧ isName w = true ∧ wordKind w := fun x k h a b c d => mk x h (.inr ⟨a, .inl ⟨k, b, c, d⟩⟩)
  have var : ∀ (x : Str), isName x.cps.toList = true → oneB (strD x.cps.toList) = false → formOk x.cps.toList 1 = true → formOk x.cps.toList 3 = true → (∀ y, (valD (dictD y) (.inr (S x.cps.toList))).getD (.int 0) = .int y) → ∃ w, D.str x = strD w ∧ isName w = true ∧ wordKind w := fun x h a b c d => mk x h (.inr ⟨a, .inr ⟨b, c, d⟩⟩)
  intro d hd
  simp only [wordsD, List.mem_cons, List.not_mem_nil, or_false] at hd
  have create := fix "create" 0 (by decide +kernel) (by decide +kernel) (by omega) (by decide +kernel) (fun _ => by kernel_rfl)
  have put := fix "put" 2 (by decide +kernel) (by decide +kernel) (by omega) (by decide +kernel) (fun _ => by kernel_rfl)
  have scan := var "scan" (by decide +kernel) (by decide +kernel) (by decide +kernel) (by decide +kernel) (fun _ => by kernel_rfl)
  have beg := one "begin" (by decide +kernel) (by decide +kernel) (by decide +kernel)
  have com := one "commit" (by decide +kernel) (by decide +kernel) (by decide +kernel)
  have get := fix "get" 1 (by decide +kernel) (by decide +kernel) (by omega) (by decide +kernel) (fun _ => by kernel_rfl)
  have del := fix "delete" 1 (by decide +kernel) (by decide +kernel) (by omega) (by decide +kernel) (fun _ => by kernel_rfl)
  have tot := fix "total" 0 (by decide +kernel) (by decide +kernel) (by omega) (by decide +kernel) (fun _ => by kernel_rfl)
  have sav := fix "save" 0 (by decide +kernel) (by decide +kernel) (by omega) (by decide +kernel) (fun _ => by kernel_rfl)
  have und := fix "undo" 0 (by decide +kernel) (by decide +kernel) (by omega) (by decide +kernel) (fun _ => by kernel_rfl)
  have rol := one "rollback" (by decide +kernel) (by decide +kernel) (by decide +kernel)
  have dro := fix "drop" 0 (by decide +kernel) (by decide +kernel) (by omega) (by decide +kernel) (fun _ => by kernel_rfl)
  rcases hd with rfl | rfl | rfl | rfl | rfl | rfl | rfl | rfl | rfl | rfl | rfl | rfl | rfl | rfl | rfl | rfl | rfl | rfl | rfl | rfl | rfl <;> assumption
theorem w__law_statement : ∀ ds μ Q QX, μ.wf → objBs μ.next ds = true → sp__law_statement ds μ Q QX → ds.length = 2 ∧ wpS c__law_statement (startE N__law_statement ds) μ (outs μ.next Q QX) := by
  intro ds μ Q QX hw ho h
  unfold sp__law_statement at h
  split at h
  · rename_i row names
    refine ⟨rfl, ?_⟩
    obtain ⟨ns, rfl, h2, h3, h4, h5, h6, h7⟩ := h
    have hq : ∀ {μ' : Sto} ds, μ.Part μ' → stmtOk ds → finP μ.next Q (.tup ds) μ' := fun ds hp hd => fin_part hp (stmtOk_objB _ hd) (h7 ds hd)
    obtain ⟨a0, a1, a2, a3, a4, a5, rfl⟩ : ∃ a0 a1 a2 a3 a4 a5, ns = [a0, a1, a2, a3, a4, a5] := by
      match ns, h2 with
      | [a0, a1, a2, a3, a4, a5], _ => exact ⟨_, _, _, _, _, _, rfl⟩
    have b : ∀ x ∈ [a0, a1, a2, a3, a4, a5], 0 ≤ x ∧ x < 840 := h3
    simp only [List.mem_cons, List.not_mem_nil, or_false, forall_eq_or_imp, forall_eq] at b
    obtain ⟨b0, b1, b2, b3, b4, b5⟩ := b
    simp [startE, wpS, wpT, wpE, wpA, wpI, wpG, wpGs, wpOpt, spLen, spIsi, spInt, spStr, spTup, spLst, spMax, spApp, spFind, spSplit, spJoin, spDget, tn_str, tn_int, tn_bl, tn_non, tn_tup, tn_lst, tn_scr, td_str, td_lst, isB, tys, truD, cmpD, binD, slD, ixD, outs, eAllS, eAllN, eMaxD, eGin, eGinT, eGix, eRse, eCal0, drf, sq_tup, sq_lst, sq_scr, sq_str, sq_int, sq_non, l_lst, l_scr, l_tup, lm_lst, lm_str, lm_int, lm_tup, lm_non, lm_bl, eqOk_str, eqOk_int, eqOk_non, deq_int, deq_str, two_le, isNonD, tysOf, c__law_statement, r1__law_statement, r2__law_statement, N__law_statement, atI_zero]
    refine ⟨by rw [sizeLine_eq]; omega, by rw [sizeLine_eq]; omega, by rw [sizeLine_eq]; omega, ?_⟩
    obtain ⟨dw, e, w, rfl, hwn, hk⟩ := atI_all words_ok (i := a0.fmod 21) (fmod_lt (by omega))
    have e2 := e
    unfold wordsD at e2
    rw [e2]
    clear e2
    dsimp only
    generalize hW : (D.lst [D.str (Str.ofString "create"), D.str (Str.ofString "put"), D.str (Str.ofString "put"), D.str (Str.ofString "scan"), D.str (Str.ofString "begin"), D.str (Str.ofString "commit"), D.str (Str.ofString "put"), D.str (Str.ofString "get"), D.str (Str.ofString "delete"), D.str (Str.ofString "total"), D.str (Str.ofString "scan"), D.str (Str.ofString "save"), D.str (Str.ofString "undo"), D.str (Str.ofString "rollback"), D.str (Str.ofString "drop"), D.str (Str.ofString "create"), D.str (Str.ofString "put"), D.str (Str.ofString "begin"), D.str (Str.ofString "save"), D.str (Str.ofString "undo"), D.str (Str.ofString "scan")]) = WD
    have hone : (Str.ofString "begin" = S w ∨ Str.ofString "commit" = S w ∨ Str.ofString "rollback" = S w) ↔ oneB (strD w) = true := by simp [oneB, strD, deq_str]
    obtain ⟨dn, en, n, hnn, rfl⟩ := atI_all h6 (i := a1.fmod names.length) (fmod_lt (by have := List.length_pos_iff.mpr h4; omega))
    simp [startE, wpS, wpT, wpE, wpA, wpI, wpG, wpGs, wpOpt, spLen, spIsi, spInt, spStr, spTup, spLst, spMax, spApp, spFind, spSplit, spJoin, spDget, tn_str, tn_int, tn_bl, tn_non, tn_tup, tn_lst, tn_scr, td_str, td_lst, isB, tys, truD, cmpD, binD, slD, ixD, outs, eAllS, eAllN, eMaxD, eGin, eGinT, eGix, eRse, eCal0, drf, sq_tup, sq_lst, sq_scr, sq_str, sq_int, sq_non, l_lst, l_scr, l_tup, lm_lst, lm_str, lm_int, lm_tup, lm_non, lm_bl, eqOk_str, eqOk_int, eqOk_non, deq_int, deq_str, two_le, isNonD, tysOf, r3__law_statement, strD]
    refine ⟨by rw [sizeLine_eq]; omega, rfl, ?_⟩
    rcases hk with ⟨k1, k2⟩ | ⟨k1, hk⟩
    · rw [if_pos (hone.mpr k1)]
      exact ⟨by rw [sizeLine_eq]; omega, hq _ (part_self hw) (.inl ⟨w, hwn, k2, rfl⟩)⟩
    · rw [if_neg (fun z => by rw [hone.mp z] at k1; cases k1)]
      -- from the parts on
      have rest : ∀ (cnt : Int) (μ' : Sto), (cnt = 0 ∧ formOk w 1 = true ∨ cnt = 1 ∧ formOk w 2 = true ∨ cnt = 2 ∧ formOk w 3 = true) → μ.Part μ' → μ'.cell μ.next = some (.lst [strD w, strD n]) →
          wpS r6__law_statement [some (.lst [.int a0, .int a1, .int a2, .int a3, .int a4, .int a5]), some (.lst names), some WD, some (.str (S w)), some (.obj μ.next), some (.int cnt), none] μ' { nx := fun x μ' => finP μ.next Q D.non μ', rt := finP μ.next Q, bk := fun x x_1 => False, ct := fun x x_1 => False, xc := fun x x_1 μ' => finX μ.next QX x μ' } := by
        intro cnt μ' hc q1 q2
        simp [startE, wpS, wpT, wpE, wpA, wpI, wpG, wpGs, wpOpt, spLen, spIsi, spInt, spStr, spTup, spLst, spMax, spApp, spFind, spSplit, spJoin, spDget, tn_str, tn_int, tn_bl, tn_non, tn_tup, tn_lst, tn_scr, td_str, td_lst, isB, tys, truD, cmpD, binD, slD, ixD, outs, eAllS, eAllN, eMaxD, eGin, eGinT, eGix, eRse, eCal0, drf, sq_tup, sq_lst, sq_scr, sq_str, sq_int, sq_non, l_lst, l_scr, l_tup, lm_lst, lm_str, lm_int, lm_tup, lm_non, lm_bl, eqOk_str, eqOk_int, eqOk_non, deq_int, deq_str, two_le, isNonD, tysOf, r6__law_statement, show atI [D.int a0, D.int a1, D.int a2, D.int a3, D.int a4, D.int a5] 5 = some (.int a5) from rfl, sq_obj q2, atI_one]
        have loop : wpS r7__law_statement [some (.lst [.int a0, .int a1, .int a2, .int a3, .int a4, .int a5]), some (.lst names), some WD, some (.str (S w)), some (.obj μ.next), some (.int cnt), none] μ' { nx := fun x μ' => finP μ.next Q D.non μ', rt := finP μ.next Q, bk := fun x x_1 => False, ct := fun x x_1 => False, xc := fun x x_1 μ' => finX μ.next QX x μ' } := by
          simp [startE, wpS, wpT, wpE, wpA, wpI, wpG, wpGs, wpOpt, spLen, spIsi, spInt, spStr, spTup, spLst, spMax, spApp, spFind, spSplit, spJoin, spDget, tn_str, tn_int, tn_bl, tn_non, tn_tup, tn_lst, tn_scr, td_str, td_lst, isB, tys, truD, cmpD, binD, slD, ixD, outs, eAllS, eAllN, eMaxD, eGin, eGinT, eGix, eRse, eCal0, drf, sq_tup, sq_lst, sq_scr, sq_str, sq_int, sq_non, l_lst, l_scr, l_tup, lm_lst, lm_str, lm_int, lm_tup, lm_non, lm_bl, eqOk_str, eqOk_int, eqOk_non, deq_int, deq_str, two_le, isNonD, tysOf, r7__law_statement, r8__law_statement]
          refine ⟨by omega, by omega, ?_⟩
          refine for_gen (fun i δ μ2 => ∃ (o : Option D) (ts : List D), δ = [some (.lst [.int a0, .int a1, .int a2, .int a3, .int a4, .int a5]), some (.lst names), some WD, some (.str (S w)), some (.obj μ.next), some (.int cnt), o] ∧ μ.Part μ2 ∧ μ2.cell μ.next = some (.lst (strD w :: strD n :: ts)) ∧ ts.length = i ∧ (∀ t ∈ ts, termOk 3 t) ∧ contig (parNs ts) ∧ (∀ t ∈ ts, ∀ p, parN t = some p → p ≤ 3))
            ⟨none, [], rfl, q1, q2, rfl, (fun _ z => by cases z), (fun m h1 h2 => by simp [parNs, maxI] at h2; omega), fun _ z => by cases z⟩ ?_ ?_
          · rintro i x LW hx hLW δ μ2 ⟨o, ts, rfl, p1, p2, p3, p4, p5, p6⟩
            obtain ⟨hi, rfl⟩ := intsD_at hx
            have hi2 : i = 0 ∨ i = 1 := by omega
            refine ⟨trivial, ?_⟩
            have hr := parNs_range p4
            have hmx : 0 ≤ maxI 0 (parNs ts) ∧ maxI 0 (parNs ts) ≤ 3 := maxI_in 0 3 (by omega) fun n hn => by
              obtain ⟨d, hd, e⟩ := List.mem_filterMap.mp hn
              have := hr n hn
              exact ⟨by omega, p6 d hd n e⟩
            have hmx2 : i = 0 → maxI 0 (parNs ts) = 0 := fun e => by
              have : ts = [] := List.length_eq_zero_iff.mp (by omega)
              rw [this]
              rfl
            have hmx3 : maxI 0 (parNs ts) ≤ 2 := by
              -- one term only
              rcases hi2 with e | e
              · rw [hmx2 e]; omega
              · match ts, p3.trans e with
                | [t], _ =>
                  cases hp : parN t with
                  | none => simp [parNs, hp, maxI]
                  | some p =>
                    have c := p5 p
                    have p1' : parNs [t] = [p] := by simp [parNs, hp]
                    rw [p1'] at c ⊢
                    have hmax : maxI 0 [p] = p := rfl
                    rw [hmax] at c ⊢
                    -- contiguity: 1 is there
                    have one := p5 1 (by omega)
                    rw [p1', hmax] at one
                    have hp1 := hr p (by rw [p1']; simp)
                    have := one (by omega)
                    simp at this
                    omega
            have hz : (strD w :: strD n :: ts).length < sizeLine := by rw [List.length_cons, List.length_cons, sizeLine_eq]; omega
            have hz2 : (strD w :: strD n :: ts).length + 1 < sizeLine := by rw [List.length_cons, List.length_cons, sizeLine_eq]; omega
            have hall : (strD w :: strD n :: ts).all okItemT = true := by
              rw [List.all_cons, List.all_cons, Bool.and_eq_true, Bool.and_eq_true]
              exact ⟨rfl, rfl, List.all_eq_true.mpr fun t ht => termOk_item (p4 t ht)⟩
            have hmz : maxI 0 (0 :: parNs (strD w :: strD n :: ts)) = maxI 0 (parNs ts) := by
              rw [parNs_strs, maxI_zero fun n hn => by have := hr n hn; omega]
            have next : ∀ (o : Option D) d, termOk (maxI 0 (parNs ts)) d → LW [some (.lst [.int a0, .int a1, .int a2, .int a3, .int a4, .int a5]), some (.lst names), some WD, some (.str (S w)), some (.obj μ.next), some (.int cnt), o] (μ2.put μ.next (.lst ((strD w :: strD n :: ts) ++ [d]))) := fun o d hd => by
              refine hLW _ _ ⟨o, ts ++ [d], rfl, part_put hw p1 (Nat.le_refl _), by rw [Sto.put_same]; rfl, by simp [p3], fun t ht => ?_, ?_, fun t ht p hp => ?_⟩
              · rcases List.mem_append.mp ht with z | z
                · exact p4 t z
                · rw [List.mem_singleton] at z
                  rw [z]
                  exact termOk_mono hd (by omega)
              · rw [parNs_app]
                cases hp : parN d with
                | none =>
                  have : parNs [d] = [] := by simp [parNs, hp]
                  rw [this, List.append_nil]
                  exact p5
                | some p =>
                  have : parNs [d] = [p] := by simp [parNs, hp]
                  rw [this]
                  obtain ⟨r1, r2, r3⟩ := termOk_par hd hp
                  exact contig_snoc p5 r1 r2
              · rcases List.mem_append.mp ht with z | z
                · exact p6 t z p hp
                · rw [List.mem_singleton] at z
                  subst z
                  have := termOk_par hd hp
                  omega
            generalize hT : strD w :: strD n :: ts = L at p2 hz hz2 hall hmz next
            rcases hi2 with e | e
            · subst e
              simp [startE, wpS, wpT, wpE, wpA, wpI, wpG, wpGs, wpOpt, spLen, spIsi, spInt, spStr, spTup, spLst, spMax, spApp, spFind, spSplit, spJoin, spDget, tn_str, tn_int, tn_bl, tn_non, tn_tup, tn_lst, tn_scr, td_str, td_lst, isB, tys, truD, cmpD, binD, slD, ixD, outs, eAllS, eAllN, eMaxD, eGin, eGinT, eGix, eRse, eCal0, drf, sq_tup, sq_lst, sq_scr, sq_str, sq_int, sq_non, l_lst, l_scr, l_tup, lm_lst, lm_str, lm_int, lm_tup, lm_non, lm_bl, eqOk_str, eqOk_int, eqOk_non, deq_int, deq_str, two_le, isNonD, tysOf, b1__law_statement, td_obj p2, p2, hz, sp__law_used, sq_obj p2, hz2, sp__law_term, hmz, show atI [D.int a0, D.int a1, D.int a2, D.int a3, D.int a4, D.int a5] 3 = some (.int a3) from rfl, show atI [D.int a0, D.int a1, D.int a2, D.int a3, D.int a4, D.int a5] 5 = some (.int a5) from rfl]
              exact ⟨cmul_l (by omega) (by omega), cmul_l (by omega) (by omega), fun x hx => List.all_eq_true.mp hall x hx, hmx.1, by omega, fun d hd => next _ d hd⟩
            · subst e
              simp [startE, wpS, wpT, wpE, wpA, wpI, wpG, wpGs, wpOpt, spLen, spIsi, spInt, spStr, spTup, spLst, spMax, spApp, spFind, spSplit, spJoin, spDget, tn_str, tn_int, tn_bl, tn_non, tn_tup, tn_lst, tn_scr, td_str, td_lst, isB, tys, truD, cmpD, binD, slD, ixD, outs, eAllS, eAllN, eMaxD, eGin, eGinT, eGix, eRse, eCal0, drf, sq_tup, sq_lst, sq_scr, sq_str, sq_int, sq_non, l_lst, l_scr, l_tup, lm_lst, lm_str, lm_int, lm_tup, lm_non, lm_bl, eqOk_str, eqOk_int, eqOk_non, deq_int, deq_str, two_le, isNonD, tysOf, b1__law_statement, td_obj p2, p2, hz, sp__law_used, sq_obj p2, hz2, sp__law_term, hmz, show atI [D.int a0, D.int a1, D.int a2, D.int a3, D.int a4, D.int a5] 4 = some (.int a4) from rfl, show atI [D.int a0, D.int a1, D.int a2, D.int a3, D.int a4, D.int a5] 2 = some (.int a2) from rfl]
              exact ⟨cmul_l (by omega) (by omega), cmul_l (by omega) (by omega), fun x hx => List.all_eq_true.mp hall x hx, hmx.1, by omega, fun d hd => next _ d hd⟩
          · rintro δ μ2 ⟨o, ts, rfl, p1, p2, p3, p4, p5, p6⟩
            refine ⟨trivial, ?_⟩
            rw [intsD_len] at p3
            simp [sq_obj p2]
            refine hq _ p1 (.inr ⟨w, n, ts, hwn, hnn, by omega, ?_, p4, p5, rfl⟩)
            rcases hc with ⟨rfl, f⟩ | ⟨rfl, f⟩ | ⟨rfl, f⟩
            · rw [show ts.length + 1 = 1 by omega]; exact f
            · rw [show ts.length + 1 = 2 by omega]; exact f
            · rw [show ts.length + 1 = 3 by omega]; exact f
        split
        · rename_i h2
          split
          · refine ⟨by rw [sizeLine_eq]; omega, hq [strD w, strD n, parD 2, parD 1] q1 (.inr ⟨w, n, [parD 2, parD 1], hwn, hnn, by simp, ?_, ?_, ?_, rfl⟩)⟩
            · rcases hc with ⟨z, _⟩ | ⟨z, _⟩ | ⟨_, f⟩
              · omega
              · omega
              · exact f
            · intro t ht
              simp at ht
              rcases ht with rfl | rfl
              · exact .inl ⟨2, by omega, by omega, by omega, rfl⟩
              · exact .inl ⟨1, by omega, by omega, by omega, rfl⟩
            · have : parNs [parD 2, parD 1] = [2, 1] := by simp [parNs, parN_parD]
              rw [this]
              intro m h1 h2
              have : maxI 0 [2, 1] = 2 := by decide
              rw [this] at h2
              simp
              omega
          · exact loop
        · exact loop
      simp [startE, wpS, wpT, wpE, wpA, wpI, wpG, wpGs, wpOpt, spLen, spIsi, spInt, spStr, spTup, spLst, spMax, spApp, spFind, spSplit, spJoin, spDget, tn_str, tn_int, tn_bl, tn_non, tn_tup, tn_lst, tn_scr, td_str, td_lst, isB, tys, truD, cmpD, binD, slD, ixD, outs, eAllS, eAllN, eMaxD, eGin, eGinT, eGix, eRse, eCal0, drf, sq_tup, sq_lst, sq_scr, sq_str, sq_int, sq_non, l_lst, l_scr, l_tup, lm_lst, lm_str, lm_int, lm_tup, lm_non, lm_bl, eqOk_str, eqOk_int, eqOk_non, deq_int, deq_str, two_le, isNonD, tysOf, r4__law_statement, r5__law_statement, strD, atI_zero, atI_one, en, show atI [D.int a0, D.int a1, D.int a2, D.int a3, D.int a4, D.int a5] 2 = some (.int a2) from rfl]
      refine ⟨h4, cmul_l (by omega) (by omega), ?_⟩
      unfold eDsp
      have m2 := fmod_lt (a := a2) (b := 2) (by omega)
      have ez : (([Str.ofString "put", Str.ofString "get", Str.ofString "delete", Str.ofString "scan"] : List Str).map Sum.inr).zip [D.int 2, D.int 1, D.int 1, D.int (2 * a2.fmod 2)] = dictD (2 * a2.fmod 2) := rfl
      rw [ez]
      have c1 : ((μ.new (Cell.lst [D.str (S w), D.str (S n)])).new (.dct (dictD (2 * a2.fmod 2)))).cell (μ.new (Cell.lst [D.str (S w), D.str (S n)])).next = some (.dct (dictD (2 * a2.fmod 2))) := Sto.new_same
      have c2 : ((μ.new (Cell.lst [D.str (S w), D.str (S n)])).new (.dct (dictD (2 * a2.fmod 2)))).cell μ.next = some (.lst [strD w, strD n]) := by
        rw [Sto.new_ne (show μ.next ≠ μ.next + 1 by omega), Sto.new_same]
        rfl
      have pp : μ.Part ((μ.new (Cell.lst [D.str (S w), D.str (S n)])).new (.dct (dictD (2 * a2.fmod 2)))) := part_mk hw (part_mk hw (part_self hw))
      generalize ((μ.new (Cell.lst [D.str (S w), D.str (S n)])).new (.dct (dictD (2 * a2.fmod 2)))) = μ' at c1 c2 pp ⊢
      have ek : asK (.obj (μ.new (Cell.lst [D.str (S w), D.str (S n)])).next) μ' = some (dictD (2 * a2.fmod 2)) := by simp only [asK, c1]
      refine ⟨by rw [td_dct c1]; rfl, ?_⟩
      rw [ek]
      dsimp only [keyOf]
      rcases hk with ⟨k, hk1, hk2, hk3⟩ | ⟨f1, f2, hk3⟩
      · rw [hk3]
        refine rest k μ' ?_ pp c2
        rcases (show k = 0 ∨ k = 1 ∨ k = 2 by omega) with rfl | rfl | rfl
        · exact .inl ⟨rfl, hk2⟩
        · exact .inr (.inl ⟨rfl, hk2⟩)
        · exact .inr (.inr ⟨rfl, hk2⟩)
      · rw [hk3]
        refine rest _ μ' ?_ pp c2
        rcases (show a2.fmod 2 = 0 ∨ a2.fmod 2 = 1 by omega) with e | e
        · exact .inl ⟨by rw [e]; rfl, f1⟩
        · exact .inr (.inr ⟨by rw [e]; rfl, f2⟩)
  · exact h.elim
end M
end

section
set_option Elab.async false
set_option linter.all false
set_option maxRecDepth 100000
set_option maxHeartbeats 4000000
set_option autoImplicit false
/-! what is written is read back. -/
namespace M
open PySem PySem.Spec PyProof.Rows L2
open SX (S S_len S_cat)
/-- a token stands by itself -/
def tokOk (t : List Nat) : Prop := t ≠ [] ∧ ∀ rest : List Nat, (rest = [] ∨ ∃ r, rest = 32 :: r) → fp (t ++ rest) = t
theorem prs_join : ∀ (ts : List (List Nat)) (t : List Nat) (acc : List (List Nat)) (n : Nat), (∀ u ∈ t :: ts, tokOk u) → ts.length + 2 ≤ n → prs n acc (32 :: TL.joinL [32] (t :: ts)) = some (acc ++ t :: ts)
  | [], t, acc, n, h, hn => by
    obtain ⟨n, rfl⟩ : ∃ m, n = m + 2 := ⟨n - 2, by omega⟩
    obtain ⟨h1, h2⟩ := h t (by simp)
    have e : fp t = t := by have := h2 [] (.inl rfl); rwa [List.append_nil] at this
    show prs (n + 2) acc (32 :: t) = _
    show (if (32 : Nat) ≠ 32 ∨ fp t = [] then none else prs (n + 1) (acc ++ [fp t]) (t.drop (fp t).length)) = _
    rw [if_neg (by rw [e]; rintro (z | z); exact z rfl; exact h1 z), e, List.drop_length]
    rfl
  | u :: ts, t, acc, n, h, hn => by
    obtain ⟨n, rfl⟩ : ∃ m, n = m + 1 := ⟨n - 1, by rw [List.length_cons] at hn; omega⟩
    obtain ⟨h1, h2⟩ := h t (by simp)
    have e : fp (t ++ (32 :: TL.joinL [32] (u :: ts))) = t := h2 _ (.inr ⟨_, rfl⟩)
    have ej : TL.joinL [32] (t :: u :: ts) = t ++ (32 :: TL.joinL [32] (u :: ts)) := rfl
    rw [ej]
    show (if (32 : Nat) ≠ 32 ∨ fp (t ++ (32 :: TL.joinL [32] (u :: ts))) = [] then none else prs n (acc ++ [fp (t ++ (32 :: TL.joinL [32] (u :: ts)))]) ((t ++ (32 :: TL.joinL [32] (u :: ts))).drop (fp (t ++ (32 :: TL.joinL [32] (u :: ts)))).length)) = _
    rw [if_neg (by rw [e]; rintro (z | z); exact z rfl; exact h1 z), e, List.drop_left, prs_join ts u (acc ++ [t]) n (fun v hv => h v (by simp [List.mem_cons.mp hv])) (by rw [List.length_cons] at hn; omega)]
    simp
theorem join_len : ∀ ts : List (List Nat), (∀ t ∈ ts, t ≠ []) → ts.length ≤ (TL.joinL [32] ts).length
  | [], _ => Nat.le_refl _
  | [t], h => by
    have := List.length_pos_iff.mpr (h t (by simp))
    show 1 ≤ t.length
    omega
  | t :: u :: ts, h => by
    have := join_len (u :: ts) fun v hv => h v (by simp [List.mem_cons.mp hv])
    show (u :: ts).length + 1 ≤ (t ++ (32 :: TL.joinL [32] (u :: ts))).length
    rw [List.length_append, List.length_cons (a := 32)]
    have := List.length_pos_iff.mpr (h t (by simp))
    omega
theorem partsOf_join {t : List Nat} {ts : List (List Nat)} (h : ∀ u ∈ t :: ts, tokOk u) : partsOf (TL.joinL [32] (t :: ts)) = some (t :: ts) := by
  unfold partsOf
  have := join_len (t :: ts) fun u hu => (h u hu).1
  rw [List.length_cons] at this
  exact prs_join ts t [] _ h (by omega)
theorem takeW {p : Nat → Bool} {t rest : List Nat} (h : ∀ c ∈ t, p c = true) (hr : rest = [] ∨ ∃ c r, rest = c :: r ∧ p c = false) : (t ++ rest).takeWhile p = t := by
  rw [List.takeWhile_append_of_pos h]
  rcases hr with rfl | ⟨c, r, rfl, hc⟩
  · simp
  · rw [List.takeWhile_cons_of_neg (by rw [hc]; exact Bool.false_ne_true), List.append_nil]
theorem tokOk_plain {c : Nat} {t : List Nat} (hc : c ≠ 39) (h : ∀ x ∈ c :: t, x ≠ 32) : tokOk (c :: t) := by
  refine ⟨by simp, fun rest hr => ?_⟩
  rw [List.cons_append, fp_cons, if_neg hc, ← List.cons_append]
  refine takeW (fun x hx => decide_eq_true (h x hx)) ?_
  rcases hr with rfl | ⟨r, rfl⟩
  · exact .inl rfl
  · exact .inr ⟨32, r, rfl, by decide⟩
theorem tokOk_text {l : List Nat} (h : 39 ∉ l) : tokOk (39 :: (l ++ [39])) := by
  refine ⟨by simp, fun rest hr => ?_⟩
  rw [List.cons_append, fp_cons, if_pos rfl, if_pos (by simp)]
  congr 1
  have e : l ++ [39] ++ rest = l ++ (39 :: rest) := by simp
  rw [e, takeW (p := fun x => decide (x ≠ 39)) (fun x hx => decide_eq_true (show x ≠ 39 from fun z => h (by rw [← z]; exact hx))) (.inr ⟨39, rest, rfl, by decide⟩)]
/-! numbers -/
theorem numL_head : ∀ n : Nat, 0 < n → (TL.numL n).head? ≠ some 48 := by
  intro n
  induction n using Nat.strongRecOn with
  | ind n ih =>
    intro h
    by_cases h10 : n < 10
    · rw [TL.numL_lt h10]
      simp
      omega
    · rw [TL.numL_step (by omega)]
      have := ih (n / 10) (by omega) (by omega)
      cases e : TL.numL (n / 10) with
      | nil => exact absurd e (TL.numL_ne _)
      | cons c r =>
        rw [e] at this
        simpa using this
theorem numT_nat (n : Nat) : numT (n : Int) = TL.numL n := by
  unfold numT
  rw [SX.num_S]
theorem numT_neg (n : Nat) (h : 0 < n) : numT (-(n : Int)) = 45 :: TL.numL n := by
  unfold numT
  rw [PyProof.Rows.toString_neg (by omega)]
  have e : (0 - -(n : Int)) = (n : Int) := by omega
  rw [e]
  have : Str.ofString ("-" ++ toString (n : Int)) = S (45 :: TL.numL n) := by
    apply TL.ext_tl
    rw [TL.tl_ofString, String.toList_append, List.map_append]
    have := TL.tl_num n
    rw [TL.tl_ofString] at this
    rw [this]
    rfl
  rw [this]
theorem numL_in (n : Nat) : ∀ c ∈ TL.numL n, c ∈ digitsL := fun c hc => by
  have := TL.numL_digits n c hc
  rw [show digitsL = [48, 49, 50, 51, 52, 53, 54, 55, 56, 57] by decide +kernel]
  simp
  omega
theorem numL_first (n : Nat) : ∃ c r, TL.numL n = c :: r ∧ 48 ≤ c ∧ c ≤ 57 := by
  cases e : TL.numL n with
  | nil => exact absurd e (TL.numL_ne n)
  | cons c r =>
    have := TL.numL_digits n c (by rw [e]; simp)
    exact ⟨c, r, rfl, this⟩
theorem numOf_num {i : Int} (h1 : -2147483648 ≤ i) (h2 : i ≤ 2147483647) : numOf (numT i) = some i := by
  have hl : ∀ n : Nat, n ≤ 2147483648 → (TL.numL n).length ≤ 10 := fun n hn => TL.numL_len (by omega) (by omega)
  have hp : ∀ n : Nat, 1 ≤ (TL.numL n).length := fun n => List.length_pos_iff.mpr (TL.numL_ne n)
  have ha : ∀ n : Nat, ((TL.numL n).all fun c => decide (c ∈ digitsL)) = true := fun n => List.all_eq_true.mpr fun c hc => decide_eq_true (numL_in n c hc)
  by_cases hi : 0 ≤ i
  · obtain ⟨n, rfl⟩ := Int.eq_ofNat_of_zero_le hi
    rw [numT_nat]
    obtain ⟨c, r, e, c1, c2⟩ := numL_first n
    have hm : ¬ List.take 1 (TL.numL n) = [45] := by
      rw [e]
      simp
      omega
    have hd : digs (TL.numL n) = TL.numL n := by unfold digs; rw [if_neg hm]
    unfold numOf
    rw [hd, if_neg (by rw [ha]; rintro (z | z); exact z ⟨hp n, hl n (by omega)⟩; cases z), if_neg (by
      rintro ⟨z1, z2⟩
      by_cases hn : n = 0
      · subst hn
        exact z2 (TL.numL_lt (by omega))
      · exact numL_head n (by omega) z1)]
    dsimp only
    rw [if_neg hm, TL.numL_val, if_pos ⟨by omega, by omega⟩]
  · obtain ⟨n, rfl⟩ : ∃ n : Nat, i = -(n : Int) := ⟨(-i).toNat, by omega⟩
    have hn : 0 < n := by omega
    rw [numT_neg n hn]
    have hm : List.take 1 (45 :: TL.numL n) = [45] := rfl
    have hd : digs (45 :: TL.numL n) = TL.numL n := by unfold digs; rw [if_pos hm]; rfl
    unfold numOf
    rw [hd, if_neg (by rw [ha]; rintro (z | z); exact z ⟨hp n, hl n (by omega)⟩; cases z), if_neg (by
      rintro ⟨z1, z2⟩
      exact numL_head n hn z1)]
    dsimp only
    rw [if_pos hm, TL.numL_val, if_pos ⟨by omega, by omega⟩]
/-! statements -/
theorem name_plain {l : List Nat} (h : isName l = true) : tokOk l ∧ (∀ c ∈ l, c ∈ signsL) ∧ l.length ≤ 8 := by
  unfold isName at h
  simp at h
  obtain ⟨⟨h1, h2⟩, h3⟩ := h
  refine ⟨?_, fun c hc => (letters_ok c (h3 c hc)).1, h2⟩
  cases l with
  | nil => simp at h1
  | cons c t =>
    refine tokOk_plain (letters_ok c (h3 c (by simp))).2 (fun x hx z => ?_)
    have := h3 x hx
    rw [z] at this
    exact absurd this (by decide +kernel)
theorem digits_sign : ∀ c ∈ digitsL, c ∈ signsL ∧ c ≠ 32 ∧ c ≠ 39 := by decide +kernel
theorem numT_tok {i : Int} (h1 : -2147483648 ≤ i) (h2 : i ≤ 2147483647) : tokOk (numT i) ∧ (∀ c ∈ numT i, c ∈ signsL) ∧ (numT i).length ≤ 11 ∧ (numT i).take 1 ≠ [39] ∧ (numT i).take 1 ≠ [36] := by
  have hl : ∀ n : Nat, n ≤ 2147483648 → (TL.numL n).length ≤ 10 := fun n hn => TL.numL_len (by omega) (by omega)
  by_cases hi : 0 ≤ i
  · obtain ⟨n, rfl⟩ := Int.eq_ofNat_of_zero_le hi
    rw [numT_nat]
    obtain ⟨c, r, e, c1, c2⟩ := numL_first n
    have hin := numL_in n
    have := hl n (by omega)
    rw [e] at hin this ⊢
    refine ⟨tokOk_plain (by omega) fun x hx => (digits_sign x (hin x hx)).2.1, fun x hx => (digits_sign x (hin x hx)).1, by omega, ?_, ?_⟩
    · simp; omega
    · simp; omega
  · obtain ⟨n, rfl⟩ : ∃ n : Nat, i = -(n : Int) := ⟨(-i).toNat, by omega⟩
    rw [numT_neg n (by omega)]
    have hin := numL_in n
    have := hl n (by omega)
    refine ⟨tokOk_plain (by omega) fun x hx => ?_, fun x hx => ?_, by rw [List.length_cons]; omega, by simp, by simp⟩
    · rcases List.mem_cons.mp hx with rfl | z
      · omega
      · exact (digits_sign x (hin x z)).2.1
    · rcases List.mem_cons.mp hx with rfl | z
      · decide +kernel
      · exact (digits_sign x (hin x z)).1
theorem tok_term {u : Int} {d : D} (hu : u ≤ 3) (h : termOk u d) : tokOk (tok d) ∧ (∀ c ∈ tok d, c ∈ signsL) ∧ (tok d).length ≤ 42 ∧ termOf (tok d) = d := by
  rcases h with ⟨m, h1, h2, h3, rfl⟩ | ⟨l, hl, rfl⟩ | ⟨i, h1, h2, rfl⟩
  · have e : tok (parD m) = 36 :: numT m := by
      show (if ("parameter" : Str) = "text" then [] else 36 :: numT m) = _
      rw [if_neg (by decide +kernel)]
    have hm : m = 1 ∨ m = 2 ∨ m = 3 ∨ m = 4 := by omega
    rw [e]
    rcases hm with rfl | rfl | rfl | rfl
    all_goals
      refine ⟨tokOk_plain (by omega) ?_, ?_, ?_, ?_⟩ <;> first | (decide +kernel) | kernel_rfl
  · have e : tok (txtD l) = 39 :: (l ++ [39]) := by
      show (if ("text" : Str) = "text" then 39 :: (l ++ [39]) else []) = _
      rw [if_pos rfl]
    have hl2 := hl
    unfold isText isStrg at hl2
    simp at hl2
    obtain ⟨⟨⟨_, h3⟩, h4⟩, h5⟩ := hl2
    rw [e]
    refine ⟨tokOk_text h5, fun c hc => ?_, by simp; omega, ?_⟩
    · simp at hc
      rcases hc with rfl | hc | rfl
      · decide +kernel
      · exact h3 c hc
      · decide +kernel
    · have e2 : (List.drop 1 (39 :: (l ++ [39]))).dropLast = l := by simp
      unfold termOf
      rw [if_pos (show List.take 1 (39 :: (l ++ [39])) = [39] from rfl), e2, if_pos ⟨by simp, by
        rw [← List.cons_append, List.getLast?_append]
        rfl, hl⟩]
  · obtain ⟨a, b, c, d1, d2⟩ := numT_tok h1 h2
    refine ⟨a, b, by show (numT i).length ≤ 42; omega, ?_⟩
    show termOf (numT i) = _
    unfold termOf
    rw [if_neg d1, if_neg d2, numOf_num h1 h2]
    rfl
theorem join_all : ∀ (ts : List (List Nat)), (∀ t ∈ ts, ∀ c ∈ t, c ∈ signsL) → ∀ c ∈ TL.joinL [32] ts, c ∈ signsL
  | [], _, _, h => by cases h
  | [t], h, c, hc => h t (by simp) c hc
  | t :: u :: ts, h, c, hc => by
    have hc : c ∈ t ++ (32 :: TL.joinL [32] (u :: ts)) := hc
    rcases List.mem_append.mp hc with z | z
    · exact h t (by simp) c z
    · rcases List.mem_cons.mp z with rfl | z
      · decide +kernel
      · exact join_all (u :: ts) (fun v hv => h v (by simp [List.mem_cons.mp hv])) c z
theorem map_id' {α : Type} {f : α → α} : ∀ {xs : List α}, (∀ x ∈ xs, f x = x) → xs.map f = xs
  | [], _ => rfl
  | x :: xs, h => by rw [List.map_cons, h x (by simp), map_id' fun y hy => h y (by simp [hy])]
theorem any_num (m : Int) (ns : List Int) : ((ns.map D.int).any fun y => deq y (.int m)) = decide (m ∈ ns) := by
  rw [List.any_map, Bool.eq_iff_iff, List.any_eq_true]
  simp [deq_int]
/-- THE READ-BACK -/
theorem read_written {ds : List D} (h : stmtOk ds) : readS (written ds) = some ds ∧ (written ds).length ≤ 200 := by
  rcases h with ⟨w, hw, hf, rfl⟩ | ⟨w, n, ts, hw, hn, hl, hf, ht, hc, rfl⟩
  · obtain ⟨a, b, c⟩ := name_plain hw
    have e : written [strD w] = w := rfl
    rw [e]
    refine ⟨?_, by omega⟩
    have hs : isStrg w = true := by
      unfold isStrg
      simp
      exact ⟨by omega, b⟩
    have hp : partsOf w = some [w] := partsOf_join (t := w) (ts := []) fun u hu => by
      rw [List.mem_singleton] at hu
      rw [hu]
      exact a
    unfold readS
    rw [if_pos hs, hp]
    show stmtOf [w] = _
    unfold stmtOf
    rw [if_neg (by rw [show headOk [w] = formOk w 0 from rfl, hf]; exact fun z => by cases z)]
    rfl
  · obtain ⟨a, b, c⟩ := name_plain hw
    obtain ⟨a2, b2, c2⟩ := name_plain hn
    have e : written (strD w :: strD n :: ts) = TL.joinL [32] (w :: n :: ts.map tok) := rfl
    have hall : ∀ u ∈ w :: n :: ts.map tok, tokOk u ∧ (∀ c ∈ u, c ∈ signsL) := fun u hu => by
      rcases List.mem_cons.mp hu with rfl | hu
      · exact ⟨a, b⟩
      · rcases List.mem_cons.mp hu with rfl | hu
        · exact ⟨a2, b2⟩
        · obtain ⟨t, htm, rfl⟩ := List.mem_map.mp hu
          have := tok_term (by omega) (ht t htm)
          exact ⟨this.1, this.2.1⟩
    have hp := partsOf_join fun u hu => (hall u hu).1
    have hlen : (written (strD w :: strD n :: ts)).length ≤ 200 := by
      rw [e]
      match ts, hl, ht with
      | [], _, _ =>
        show (w ++ (32 :: n)).length ≤ 200
        rw [List.length_append, List.length_cons]
        omega
      | [t1], _, ht =>
        have l1 := (tok_term (by omega) (ht t1 (by simp))).2.2.1
        show (w ++ (32 :: (n ++ (32 :: tok t1)))).length ≤ 200
        simp only [List.length_append, List.length_cons]
        omega
      | [t1, t2], _, ht =>
        have l1 := (tok_term (by omega) (ht t1 (by simp))).2.2.1
        have l2 := (tok_term (by omega) (ht t2 (by simp))).2.2.1
        show (w ++ (32 :: (n ++ (32 :: (tok t1 ++ (32 :: tok t2)))))).length ≤ 200
        simp only [List.length_append, List.length_cons]
        omega
      | _ :: _ :: _ :: _, hl, _ => simp at hl
    refine ⟨?_, hlen⟩
    have hs : isStrg (written (strD w :: strD n :: ts)) = true := by
      unfold isStrg
      rw [Bool.and_eq_true]
      refine ⟨decide_eq_true hlen, List.all_eq_true.mpr fun c hc => decide_eq_true ?_⟩
      rw [e] at hc
      exact join_all _ (fun t ht => (hall t ht).2) c hc
    unfold readS
    rw [if_pos hs, e, hp]
    show stmtOf (w :: n :: ts.map tok) = _
    have hterms : (ts.map tok).map termOf = ts := by
      rw [List.map_map]
      exact map_id' fun t htm => (tok_term (by omega) (ht t htm)).2.2.2
    have e2 : ((w :: n :: ts.map tok).drop 2).map termOf = ts := hterms
    have e3 : ((w :: n :: ts.map tok).take 2).map strD = [strD w, strD n] := rfl
    unfold stmtOf
    rw [if_neg (by
      rw [show headOk (w :: n :: ts.map tok) = (formOk w ((ts.map tok).length + 1) && isName n) from rfl, List.length_map, hf, hn]
      exact fun z => by cases z), e2, e3, if_neg (by
      rw [List.any_eq_true]
      rintro ⟨t, htm, hnon⟩
      rcases ht t htm with ⟨m, _, _, _, rfl⟩ | ⟨l, _, rfl⟩ | ⟨i, _, _, rfl⟩ <;> cases hnon)]
    dsimp only
    rw [if_pos]
    · rfl
    · show ((intsD 1 (maxI 0 (parNs ts)).toNat).all fun e => ((parNs ts).map D.int).any fun y => deq y e) = true
      rw [List.all_eq_true]
      intro x hx
      obtain ⟨k, hk, rfl⟩ := List.getElem_of_mem hx
      rw [intsD_len] at hk
      have ek := (intsD_at (List.getElem?_eq_getElem (by rw [intsD_len]; exact hk) : (intsD 1 (maxI 0 (parNs ts)).toNat)[k]? = _)).2
      rw [ek, any_num]
      exact decide_eq_true (hc _ (by omega) (by omega))
end M
end

section
set_option Elab.async false
set_option linter.all false
set_option maxRecDepth 100000
set_option maxHeartbeats 4000000
set_option autoImplicit false
namespace M
open PySem PySem.Spec PyProof.Rows L2
open SX (S S_len S_cat)
theorem stmtOk_items {ds : List D} (h : stmtOk ds) : ds.length ≤ 4 ∧ (∀ d ∈ ds, okItemT d = true ∧ okItem d = true ∧ okItem (listed d) = true ∧ parN (listed d) = parN d ∧ (wrOk d ∧ (tok d).length ≤ 1000) ∧ eqN 11 d = true ∧ tyName d ⟨0, fun _ => none⟩ ≠ some "bool" ∧ (∀ μ, tyName d μ = tyName d ⟨0, fun _ => none⟩) ∧ (∀ n, parN d = some n → 0 ≤ n) ∧ ∃ a, tyName d ⟨0, fun _ => none⟩ = some a ∧ a ∈ ["str", "int", "tuple"]) := by
  have str : ∀ l, isName l = true → okItemT (strD l) = true ∧ okItem (strD l) = true ∧ okItem (listed (strD l)) = true ∧ parN (listed (strD l)) = parN (strD l) ∧ (wrOk (strD l) ∧ (tok (strD l)).length ≤ 1000) ∧ eqN 11 (strD l) = true ∧ tyName (strD l) ⟨0, fun _ => none⟩ ≠ some "bool" ∧ (∀ μ, tyName (strD l) μ = tyName (strD l) ⟨0, fun _ => none⟩) ∧ (∀ n, parN (strD l) = some n → 0 ≤ n) ∧ ∃ a, tyName (strD l) ⟨0, fun _ => none⟩ = some a ∧ a ∈ ["str", "int", "tuple"] := fun l hl =>
    ⟨rfl, rfl, rfl, rfl, ⟨.inl ⟨l, rfl⟩, by have := (name_plain hl).2.2; show l.length ≤ 1000; omega⟩, rfl, (by rw [strD, tn_str]; decide), fun _ => rfl, (fun n h => by cases h), "str", rfl, by simp⟩
  have term : ∀ d, termOk 3 d → okItemT d = true ∧ okItem d = true ∧ okItem (listed d) = true ∧ parN (listed d) = parN d ∧ (wrOk d ∧ (tok d).length ≤ 1000) ∧ eqN 11 d = true ∧ tyName d ⟨0, fun _ => none⟩ ≠ some "bool" ∧ (∀ μ, tyName d μ = tyName d ⟨0, fun _ => none⟩) ∧ (∀ n, parN d = some n → 0 ≤ n) ∧ ∃ a, tyName d ⟨0, fun _ => none⟩ = some a ∧ a ∈ ["str", "int", "tuple"] := fun d hd => by
    have ht := tok_term (by omega) hd
    have hl : (tok d).length ≤ 1000 := by have := ht.2.2.1; omega
    have hp : ∀ n, parN d = some n → 0 ≤ n := fun n e => by have := termOk_par hd e; omega
    have hit := termOk_item hd
    rcases hd with ⟨m, h1, h2, h3, rfl⟩ | ⟨l, h1, rfl⟩ | ⟨i, h1, h2, rfl⟩
    · exact ⟨hit, rfl, rfl, rfl, ⟨.inr (.inr (.inr ⟨m, by omega, rfl⟩)), hl⟩, rfl, by simp [parD, tn_tup], fun _ => rfl, hp, "tuple", rfl, by simp⟩
    · exact ⟨hit, hit, hit, rfl, ⟨.inr (.inr (.inl ⟨l, rfl⟩)), hl⟩, rfl, by simp [txtD, tn_tup], fun _ => rfl, hp, "tuple", rfl, by simp⟩
    · exact ⟨hit, rfl, rfl, rfl, ⟨.inr (.inl ⟨i, by omega, rfl⟩), hl⟩, rfl, by simp [tn_int], fun _ => rfl, hp, "int", rfl, by simp⟩
  rcases h with ⟨w, hw, hf, rfl⟩ | ⟨w, n, ts, hw, hn, hl, hf, ht, hc, rfl⟩
  · refine ⟨by simp, fun d hd => ?_⟩
    rw [List.mem_singleton] at hd
    subst hd
    exact str w hw
  · refine ⟨by simp; omega, fun d hd => ?_⟩
    rcases List.mem_cons.mp hd with rfl | hd
    · exact str w hw
    · rcases List.mem_cons.mp hd with rfl | hd
      · exact str n hn
      · exact term d (ht d hd)
theorem parNs_listed {ds : List D} (h : ∀ d ∈ ds, parN (listed d) = parN d) : parNs (ds.map listed) = parNs ds := by
  unfold parNs
  rw [List.filterMap_map]
  induction ds with
  | nil => rfl
  | cons d ds ih =>
    rw [List.filterMap_cons, List.filterMap_cons, show (parN ∘ listed) d = parN d from h d (by simp), ih fun x hx => h x (by simp [hx])]
theorem w_law : ∀ ds μ Q QX, μ.wf → objBs μ.next ds = true → sp_law ds μ Q QX → ds.length = 1 ∧ wpS c_law (startE N_law ds) μ (outs μ.next Q QX) := by
  intro ds μ Q QX hw ho h
  unfold sp_law at h
  split at h
  · rename_i xs
    refine ⟨rfl, ?_⟩
    obtain ⟨ns, rfl, h1⟩ := h
    have hq : finP μ.next Q (.bl true) μ := fin_same hw rfl h1
    simp [startE, wpS, wpT, wpE, wpA, wpI, wpG, wpGs, wpOpt, spLen, spIsi, spInt, spStr, spTup, spLst, spMax, spApp, spFind, spSplit, spJoin, spDget, tn_str, tn_int, tn_bl, tn_non, tn_tup, tn_lst, tn_scr, td_str, td_lst, isB, tys, truD, cmpD, binD, slD, ixD, outs, eAllS, eAllN, eMaxD, eGin, eGinT, eGix, eRse, eCal0, drf, sq_tup, sq_lst, sq_scr, sq_str, sq_int, sq_non, l_lst, l_scr, l_tup, lm_lst, lm_str, lm_int, lm_tup, lm_non, lm_bl, eqOk_str, eqOk_int, eqOk_non, deq_int, deq_str, two_le, isNonD, tysOf, c_law, r1_law, N_law, sp__law_cell]
    refine ⟨⟨ns, rfl⟩, fun i1 => ⟨⟨ns, rfl⟩, fun i2 => ?_⟩⟩
    have hcut : cutD (ns.map D.int) (some 2) (some 20) = ((ns.take 20).drop 2).map D.int := by
      rw [show (2 : Int) = ((2 : Nat) : Int) from rfl, show (20 : Int) = ((20 : Nat) : Int) from rfl, cut_mid, List.map_drop, List.map_take]
    rw [hcut, it_lst]
    refine ⟨by rw [List.length_map, List.length_drop, List.length_take, sizeLine_eq]; omega, ?_⟩
    refine for_gen (fun i δ μ' => ∃ o1 o2 o3 o4 o5 o6, δ = [some (.scr (ns.map .int)), o1, o2, o3, o4, o5, o6] ∧ μ' = μ) ⟨_, _, _, _, _, _, rfl, rfl⟩ ?_ ?_
    · rintro i x LW hx hLW δ μ' ⟨o1, o2, o3, o4, o5, o6, rfl, rfl⟩
      obtain ⟨c, rfl⟩ : ∃ c : Int, x = .int c := by
        have := List.mem_of_getElem? hx
        rcases List.mem_cons.mp this with rfl | this
        · exact ⟨_, rfl⟩
        · rcases List.mem_cons.mp this with rfl | this
          · exact ⟨_, rfl⟩
          · obtain ⟨c, _, rfl⟩ := List.mem_map.mp this
            exact ⟨c, rfl⟩
      refine ⟨trivial, ?_⟩
      have next : ∀ o1 o2 o3 o4 o5 o6, LW [some (.scr (ns.map .int)), o1, o2, o3, o4, o5, o6] μ' := fun o1 o2 o3 o4 o5 o6 => hLW _ _ ⟨o1, o2, o3, o4, o5, o6, rfl, rfl⟩
      simp [startE, wpS, wpT, wpE, wpA, wpI, wpG, wpGs, wpOpt, spLen, spIsi, spInt, spStr, spTup, spLst, spMax, spApp, spFind, spSplit, spJoin, spDget, tn_str, tn_int, tn_bl, tn_non, tn_tup, tn_lst, tn_scr, td_str, td_lst, isB, tys, truD, cmpD, binD, slD, ixD, outs, eAllS, eAllN, eMaxD, eGin, eGinT, eGix, eRse, eCal0, drf, sq_tup, sq_lst, sq_scr, sq_str, sq_int, sq_non, l_lst, l_scr, l_tup, lm_lst, lm_str, lm_int, lm_tup, lm_non, lm_bl, eqOk_str, eqOk_int, eqOk_non, deq_int, deq_str, two_le, isNonD, tysOf, b1_law, sp__law_row]
      intro rs hrs hrr
      obtain ⟨a0, a1, a2, a3, a4, a5, a6, a7, a8, a9, rfl⟩ : ∃ a0 a1 a2 a3 a4 a5 a6 a7 a8 a9, rs = [a0, a1, a2, a3, a4, a5, a6, a7, a8, a9] := by
        match rs, hrs with
        | [a0, a1, a2, a3, a4, a5, a6, a7, a8, a9], _ => exact ⟨_, _, _, _, _, _, _, _, _, _, rfl⟩
      have b := hrr
      simp only [List.mem_cons, List.not_mem_nil, or_false, forall_eq_or_imp, forall_eq] at b
      obtain ⟨b0, b1, b2, b3, b4, b5, b6, b7, b8, b9⟩ := b
      have w12 : ∀ d ∈ [D.str "create", D.str "drop", D.str "put", D.str "delete", D.str "get", D.str "scan", D.str "total", D.str "begin", D.str "commit", D.str "rollback", D.str "save", D.str "undo"], ∃ w, isName w = true ∧ d = strD w := by
        have mk : ∀ x : Str, isName x.cps.toList = true → ∃ w, isName w = true ∧ D.str x = strD w := fun x h => ⟨x.cps.toList, h, by rw [strD, SX.S_tl]⟩
        intro d hd
        simp only [List.mem_cons, List.not_mem_nil, or_false] at hd
        rcases hd with rfl | rfl | rfl | rfl | rfl | rfl | rfl | rfl | rfl | rfl | rfl | rfl <;> exact mk _ (by decide +kernel)
      obtain ⟨dw, ew, w9, hw9, rfl⟩ := atI_all w12 (i := a9.fmod 12) (fmod_lt (by omega))
      have e6 : cutD [D.int a0, D.int a1, D.int a2, D.int a3, D.int a4, D.int a5, D.int a6, D.int a7, D.int a8, D.int a9] none (some 6) = [D.int a0, D.int a1, D.int a2, D.int a3, D.int a4, D.int a5] := cut_to _ 6
      simp [startE, wpS, wpT, wpE, wpA, wpI, wpG, wpGs, wpOpt, spLen, spIsi, spInt, spStr, spTup, spLst, spMax, spApp, spFind, spSplit, spJoin, spDget, tn_str, tn_int, tn_bl, tn_non, tn_tup, tn_lst, tn_scr, td_str, td_lst, isB, tys, truD, cmpD, binD, slD, ixD, outs, eAllS, eAllN, eMaxD, eGin, eGinT, eGix, eRse, eCal0, drf, sq_tup, sq_lst, sq_scr, sq_str, sq_int, sq_non, l_lst, l_scr, l_tup, lm_lst, lm_str, lm_int, lm_tup, lm_non, lm_bl, eqOk_str, eqOk_int, eqOk_non, deq_int, deq_str, two_le, isNonD, tysOf, q1b1_law, q2b1_law, sp__law_name, e6, ew, show atI [D.int a0, D.int a1, D.int a2, D.int a3, D.int a4, D.int a5, D.int a6, D.int a7, D.int a8, D.int a9] 6 = some (.int a6) from rfl, show atI [D.int a0, D.int a1, D.int a2, D.int a3, D.int a4, D.int a5, D.int a6, D.int a7, D.int a8, D.int a9] 7 = some (.int a7) from rfl, show atI [D.int a0, D.int a1, D.int a2, D.int a3, D.int a4, D.int a5, D.int a6, D.int a7, D.int a8, D.int a9] 8 = some (.int a8) from rfl, show atI [D.int a0, D.int a1, D.int a2, D.int a3, D.int a4, D.int a5, D.int a6, D.int a7, D.int a8, D.int a9] 9 = some (.int a9) from rfl]
      refine ⟨by rw [sizeLine_eq]; omega, fun l6 h6 => ⟨cmul_l (by omega) (by omega), fun l7 h7 => ⟨by rw [sizeLine_eq]; omega, ?_⟩⟩⟩
      refine ⟨[a0, a1, a2, a3, a4, a5], rfl, rfl, fun x hx => hrr x (by simp at hx ⊢; omega), by simp, by simp, fun x hx => ?_, fun ds hds => ?_⟩
      · simp only [List.mem_cons, List.not_mem_nil, or_false] at hx
        rcases hx with rfl | rfl | rfl
        · exact ⟨_, h6, rfl⟩
        · exact ⟨_, h7, rfl⟩
        · exact ⟨_, hw9, rfl⟩
      · obtain ⟨hr1, hr2⟩ := read_written hds
        obtain ⟨hl4, hit⟩ := stmtOk_items hds
        have hsz : (written ds).length + 8 ≤ sizeLine := by rw [sizeLine_eq]; omega
        have hwr : ∀ x ∈ ds, wrOk x ∧ (tok x).length ≤ 1000 := fun x hx => (hit x hx).2.2.2.2.1
        have hpz : maxI 0 (0 :: parNs ds) = maxI 0 (parNs ds) := maxI_zero fun n hn => by
          obtain ⟨d, hd, e⟩ := List.mem_filterMap.mp hn
          exact (hit d hd).2.2.2.2.2.2.2.2.1 n e
        have hpl : parNs (ds.map listed) = parNs ds := parNs_listed fun d hd => (hit d hd).2.2.2.1
        have hok : ds.all okItem = true := List.all_eq_true.mpr fun d hd => (hit d hd).2.1
        have hokT : ds.all okItemT = true := List.all_eq_true.mpr fun d hd => (hit d hd).1
        have hokL : (ds.map listed).all okItem = true := by
          rw [List.all_map]
          exact List.all_eq_true.mpr fun d hd => (hit d hd).2.2.1
        have heq : eqOk (.tup ds) = true := List.all_eq_true.mpr fun d hd => (hit d hd).2.2.2.2.2.1
        have hdq : deq (.tup ds) (.tup ds) = true := SeqAt.eqv_refl_plain _ (eqN_ok 12 _ heq).2.1
        have s1 : ds.length < sizeLine := by rw [sizeLine_eq]; omega
        have s2 : ds.length + 1 < sizeLine := by rw [sizeLine_eq]; omega
        have s3 : ds.length ≤ 10 := by omega
        have s4 : (ds.map listed).length < sizeLine := by rw [List.length_map]; exact s1
        simp [startE, wpS, wpT, wpE, wpA, wpI, wpG, wpGs, wpOpt, spLen, spIsi, spInt, spStr, spTup, spLst, spMax, spApp, spFind, spSplit, spJoin, spDget, tn_str, tn_int, tn_bl, tn_non, tn_tup, tn_lst, tn_scr, td_str, td_lst, isB, tys, truD, cmpD, binD, slD, ixD, outs, eAllS, eAllN, eMaxD, eGin, eGinT, eGix, eRse, eCal0, drf, sq_tup, sq_lst, sq_scr, sq_str, sq_int, sq_non, l_lst, l_scr, l_tup, lm_lst, lm_str, lm_int, lm_tup, lm_non, lm_bl, eqOk_str, eqOk_int, eqOk_non, deq_int, deq_str, two_le, isNonD, tysOf, q3b1_law, q4b1_law, sp__law_written, s3, strD, sp_parse_statement, S_cps, S_len, hr1, hsz, heq, hdq, it_tup, wipeE]
        refine ⟨hwr, ?_⟩
        have hnot : ∀ (μ : Sto) x, x ∈ ds → ∃ a, tyName x μ = some a ∧ a ≠ "bool" := fun μ x hx => by
          obtain ⟨a, ea, ha⟩ := (hit x hx).2.2.2.2.2.2.2.2.2
          refine ⟨a, ((hit x hx).2.2.2.2.2.2.2.1 μ).trans ea, fun z => ?_⟩
          rw [z] at ha
          simp at ha
        refine loopC_pure (fun _ => none) trivial (fun x hx N hN => ?_) (by simp; omega) ?_
        · obtain ⟨a, ea, na⟩ := hnot μ' x hx
          simp [startE, wpS, wpT, wpE, wpA, wpI, wpG, wpGs, wpOpt, spLen, spIsi, spInt, spStr, spTup, spLst, spMax, spApp, spFind, spSplit, spJoin, spDget, tn_str, tn_int, tn_bl, tn_non, tn_tup, tn_lst, tn_scr, td_str, td_lst, isB, tys, truD, cmpD, binD, slD, ixD, outs, eAllS, eAllN, eMaxD, eGin, eGinT, eGix, eRse, eCal0, drf, sq_tup, sq_lst, sq_scr, sq_str, sq_int, sq_non, l_lst, l_scr, l_tup, lm_lst, lm_str, lm_int, lm_tup, lm_non, lm_bl, eqOk_str, eqOk_int, eqOk_non, deq_int, deq_str, two_le, isNonD, tysOf, ea, na]
          exact hN
        · have e0 : ds.filterMap (fun _ : D => (none : Option D)) = [] := by
            induction ds with
            | nil => rfl
            | cons x xs ih => simp
          rw [List.nil_append, e0]
          simp [startE, wpS, wpT, wpE, wpA, wpI, wpG, wpGs, wpOpt, spLen, spIsi, spInt, spStr, spTup, spLst, spMax, spApp, spFind, spSplit, spJoin, spDget, tn_str, tn_int, tn_bl, tn_non, tn_tup, tn_lst, tn_scr, td_str, td_lst, isB, tys, truD, cmpD, binD, slD, ixD, outs, eAllS, eAllN, eMaxD, eGin, eGinT, eGix, eRse, eCal0, drf, sq_tup, sq_lst, sq_scr, sq_str, sq_int, sq_non, l_lst, l_scr, l_tup, lm_lst, lm_str, lm_int, lm_tup, lm_non, lm_bl, eqOk_str, eqOk_int, eqOk_non, deq_int, deq_str, two_le, isNonD, tysOf, q5b1_law, q6b1_law, sp_parameters, sp__law_used, s1, s2, hok, hokT, hokL, hpz, hpl, s4, sp__law_listed, s3]
          exact ⟨fun x hx => (hit x hx).2.1, fun x hx => (hit x hx).1, fun x hx => (hit x hx).2.1, fun x hx => (hwr x hx).1, fun x hx => (hit x hx).2.2.1, fun x hx => (hit x hx).1, next _ _ _ _ _ _⟩
    · rintro δ μ' ⟨o1, o2, o3, o4, o5, o6, rfl, rfl⟩
      exact ⟨trivial, hq⟩
  · exact h.elim
theorem law_spec (ns : List Int) (hl : ns.length ≤ 63) (hb : ∀ z ∈ ns, Builtin.Int.intBits z ≤ 1048576) (QM : Post) (hQ : ∀ μ, QM (.bl true) μ) : sp_law [.scr (ns.map .int)] ⟨0, fun _ => none⟩ QM (fun _ _ => False) := ⟨ns, rfl, hQ _⟩
end M
end

section
set_option Elab.async false
set_option linter.all false
set_option maxRecDepth 100000
set_option maxHeartbeats 4000000
set_option autoImplicit false
/-! M: the head's facts, with the tables of the code objects and the dicts of the top. -/
namespace M
open PySem PySem.Spec PyProof.Rows L2
theorem lookup_keep {K : PySem.W.Frag} {f : Addr → Bool} {a : Addr} : (K.filter fun e => f e.1).lookup a = if f a = true then K.lookup a else none := by
  induction K with
  | nil => split <;> rfl
  | cons e K ih =>
    obtain ⟨b, o⟩ := e
    rw [List.filter_cons]
    by_cases hb : f b = true
    · rw [if_pos hb, List.lookup_cons, List.lookup_cons, ih]
      by_cases hab : (a == b) = true
      · rw [hab]
        have : a = b := eq_of_beq hab
        subst this
        simp [hb]
      · rw [Bool.not_eq_true] at hab
        rw [hab]
    · rw [if_neg hb, ih, List.lookup_cons]
      by_cases hab : (a == b) = true
      · have : a = b := eq_of_beq hab
        subst this
        rw [if_neg hb, if_neg hb]
      · rw [Bool.not_eq_true] at hab
        rw [hab]
/-- a def's code object and its table -/
def codeTab (K : PySem.W.Frag) (x : Str) : Option (Addr × Addr) := match K.lookup (He.ga K x) with
  | some ⟨_, _, .func fd, _⟩ => (match fd.code with
    | .ref c => (match K.lookup c with
      | some ⟨_, _, .fields vs, _⟩ => (match vs.getD 11 .none with
        | .ref P => some (c, P)
        | _ => none)
      | _ => none)
    | _ => none)
  | _ => none
def tabsOf (K : PySem.W.Frag) (xs : List Str) : List (Addr × Addr) := xs.filterMap (codeTab K)
def noTabs (K : PySem.W.Frag) (ts : List (Addr × Addr)) : PySem.W.Frag := K.filter fun e => !(ts.any fun t => t.2 == e.1)
theorem noTabs_in {K : PySem.W.Frag} {ts : List (Addr × Addr)} {h : Heap} (X : K.In h) : (noTabs K ts).In h := fun a o e => by
  unfold noTabs at e
  rw [lookup_keep (f := fun b => !(ts.any fun t => t.2 == b))] at e
  split at e
  · exact X a o e
  · cases e
theorem noTabs_none {K : PySem.W.Frag} {ts : List (Addr × Addr)} {p : Addr × Addr} (h : p ∈ ts) : (noTabs K ts).lookup p.2 = none := by
  unfold noTabs
  rw [lookup_keep (f := fun b => !(ts.any fun t => t.2 == b)), if_neg]
  rw [Bool.not_eq_true, Bool.not_eq_false', List.any_eq_true]
  exact ⟨p, h, beq_self_eq_true _⟩
def emptyTab : Option Obj → Bool
  | some ⟨.none, none, .fields vs, sl⟩ => vs.isEmpty && sl.isEmpty
  | _ => false
theorem emptyTab_ok {o : Option Obj} (h : emptyTab o = true) : o = some { cls := .none, data := .fields #[] } := by
  unfold emptyTab at h
  split at h
  · rename_i vs sl
    rw [Bool.and_eq_true] at h
    rw [Array.isEmpty_iff.mp h.1, Array.isEmpty_iff.mp h.2]
  · cases h
def linkB (K : PySem.W.Frag) (x : Str) (c : Addr) : Bool := match K.lookup (He.ga K x) with
  | some ⟨_, _, .func fd, _⟩ => (match fd.code with
    | .ref d => d == c
    | _ => false)
  | _ => false
theorem linkB_ok {K : PySem.W.Frag} {x : Str} {c : Addr} (h : linkB K x c = true) {oc : Value} {od : Option Addr} {fd : FuncData} {sl : Array (Option Value)} (l : K.lookup (He.ga K x) = some ⟨oc, od, .func fd, sl⟩) : fd.code = .ref c := by
  unfold linkB at h
  rw [l] at h
  dsimp only at h
  split at h
  · rename_i d e
    rw [e, eq_of_beq h]
  · cases h
def codesB (g : Addr → Option Obj) (K0 K : PySem.W.Frag) (xs : List Str) : Bool := xs.all fun x => match codeTab K0 x with
  | some p => PySem.W.codeHdIn K0 p.1 p.2 && (emptyTab (g p.2) && linkB K x p.1)
  | none => false
/-- a dict of the top: keys, tuples of whole numbers -/
def intsB : List Int → List Value → Bool
  | [], [] => true
  | i :: is, .int j _ :: vs => decide (i = j) && intsB is vs
  | _, _ => false
theorem intsB_ok : ∀ {is : List Int} {vs : List Value}, intsB is vs = true → Vals (is.map V.int) vs
  | [], [], _ => .nil
  | [], v :: vs, h => by cases v <;> cases (show false = true from h)
  | i :: is, [], h => by cases (show false = true from h)
  | i :: is, v :: vs, h => by
    cases v with
    | int j t =>
      have h : (decide (i = j) && intsB is vs) = true := h
      rw [Bool.and_eq_true, decide_eq_true_eq] at h
      rw [h.1]
      exact .cons ⟨t, rfl⟩ (intsB_ok h.2)
    | _ => cases (show false = true from h)
def tupIs (K : PySem.W.Frag) (v : Value) (is : List Int) : Bool := match v with
  | .ref t => (match K.lookup t with
    | some ⟨.type c, _, .seq its _, _⟩ => decide (c = "tuple") && (Nat.ble its.size 1000 && intsB is its.toList)
    | _ => false)
  | _ => false
theorem tupIs_ok {K : PySem.W.Frag} {v : Value} {is : List Int} (h : tupIs K v is = true) : ∃ t, v = .ref t ∧ ∀ w : Vw, Rep K w (.tup (is.map .int)) (.ref t) := by
  unfold tupIs at h
  split at h
  · rename_i t
    split at h
    · rename_i c od its n sl l
      rw [Bool.and_eq_true, Bool.and_eq_true, decide_eq_true_eq] at h
      obtain ⟨rfl, h1, h2⟩ := h
      refine ⟨t, rfl, fun w => ⟨t, is.map V.int, rfl, .inr ⟨_, its, n, l, rfl, rfl, ?_, intsB_ok h2⟩, ?_⟩⟩
      · have := Nat.le_of_ble_eq_true h1
        rw [sizeLine_eq]
        omega
      · clear h2
        induction is with
        | nil => rfl
        | cons i is ih => exact ⟨.int i, is.map V.int, rfl, rfl, ih⟩
    · cases h
  · cases h
def entsB (K : PySem.W.Frag) : List DictEntry → List (Str × List Int) → Bool
  | [], [] => true
  | e :: es, q :: qs => (match e.key with
    | .str k _ => decide (k = q.1)
    | _ => false) && (tupIs K e.val q.2 && entsB K es qs)
  | _, _ => false
def dictB (K : PySem.W.Frag) (g : Str) (qs : List (Str × List Int)) : Bool := match K.lookup (He.ga K g) with
  | some ⟨_, _, .dict es _, _⟩ => entsB K es.toList qs
  | _ => false
theorem ents_find {K : PySem.W.Frag} {z : Str} : ∀ {es : List DictEntry} {qs : List (Str × List Int)}, entsB K es qs = true → es.any (·.refKey) = false ∧ match qs.lookup z with
    | some is => ∃ e, es.find? (·.key.isStr z) = some e ∧ ∃ t, e.val = .ref t ∧ ∀ w : Vw, Rep K w (.tup (is.map .int)) (.ref t)
    | none => es.find? (·.key.isStr z) = none
  | [], [], _ => ⟨rfl, rfl⟩
  | [], _ :: _, h => by cases (show false = true from h)
  | _ :: _, [], h => by cases (show false = true from h)
  | e :: es, q :: qs, h => by
    have h : ((match e.key with
      | .str k _ => decide (k = q.1)
      | _ => false) && (tupIs K e.val q.2 && entsB K es qs)) = true := h
    rw [Bool.and_eq_true, Bool.and_eq_true] at h
    obtain ⟨h1, h2, h3⟩ := h
    obtain ⟨r1, r2⟩ := ents_find (z := z) h3
    obtain ⟨q1, q2⟩ := q
    split at h1
    · rename_i k t ek
      have hk := of_decide_eq_true h1
      dsimp only at hk
      subst hk
      refine ⟨?_, ?_⟩
      · rw [List.any_cons, r1, Bool.or_false]
        unfold DictEntry.refKey
        rw [ek]
      · rw [List.lookup_cons, List.find?_cons]
        have e1 : e.key.isStr z = (z == k) := by
          rw [ek]
          show (k == z) = (z == k)
          exact BEq.comm
        rw [e1]
        cases hz : z == k with
        | true => exact ⟨e, rfl, tupIs_ok h2⟩
        | false => exact r2
    · cases h1
abbrev AlM : Type := Bool × Bool × He.AlT
def obsM (n : Nat) (fa : List He.Fa) (fn : List He.DefD) (ts : List (Str × List (Str × List Int))) (xs : List Str) (g : Addr → Option Obj) : AlM :=
  (codesB g (He.frG g (He.asD g n)) (noTabs (He.frG g (He.asD g n)) (tabsOf (He.frG g (He.asD g n)) xs)) xs,
    ts.all fun t => dictB (noTabs (He.frG g (He.asD g n)) (tabsOf (He.frG g (He.asD g n)) xs)) t.1 t.2,
    He.obsT fa fn (ts.map fun t => (fun K => He.ga K t.1, t.2.map (·.1))) (noTabs (He.frG g (He.asD g n)) (tabsOf (He.frG g (He.asD g n)) xs)))
structure SaysM (fa : List He.Fa) (fn : List He.DefD) (ts : List (Str × List (Str × List Int))) (xs : List Str) (w : World) (K : PySem.W.Frag) (cs : List (Addr × Addr)) (h : Heap) : Prop where
  kin : K.In h
  tabs : ∀ p ∈ cs, K.lookup p.2 = none ∧ PySem.W.CodeHd h p.1 p.2 ∧ h.get? p.2 = some { cls := .none, data := .fields #[] }
  link : ∀ x ∈ xs, ∃ p ∈ cs, linkB K x p.1 = true
  dic : ∀ t ∈ ts, dictB K t.1 t.2 = true
  says : He.SaysT fa fn (ts.map fun t => (fun K => He.ga K t.1, t.2.map (·.1))) w K
def hookM (n : Nat) (fa : List He.Fa) (fn : List He.DefD) (ts : List (Str × List (Str × List Int))) (xs : List Str) : PySem.W.Hook where
  α := AlM
  obs := fun s => obsM n fa fn ts xs s.heap.get?
  val := fun w => (true, true, He.valT fn (ts.map fun t => (fun K => He.ga K t.1, t.2.map (·.1))) w)
  says := fun w h => ∃ K cs, SaysM fa fn ts xs w K cs h
  of := fun w s e => by
    obtain ⟨e1, e2⟩ := Prod.mk.inj e
    obtain ⟨e2, e3⟩ := Prod.mk.inj e2
    have X : (He.frG s.heap.get? (He.asD s.heap.get? n)).In s.heap := He.frG_in
    refine ⟨_, tabsOf (He.frG s.heap.get? (He.asD s.heap.get? n)) xs, noTabs_in X, fun p hp => ?_, fun x hx => ?_, fun t ht => List.all_eq_true.mp e2 t ht, e3⟩
    · obtain ⟨x, hx, ex⟩ := List.mem_filterMap.mp hp
      have c := List.all_eq_true.mp e1 x hx
      rw [ex] at c
      dsimp only at c
      rw [Bool.and_eq_true, Bool.and_eq_true] at c
      exact ⟨noTabs_none hp, PySem.W.codeHd_of_K X c.1, emptyTab_ok c.2.1⟩
    · have c := List.all_eq_true.mp e1 x hx
      cases ex : codeTab (He.frG s.heap.get? (He.asD s.heap.get? n)) x with
      | none =>
        rw [ex] at c
        cases c
      | some p =>
        rw [ex] at c
        dsimp only at c
        rw [Bool.and_eq_true, Bool.and_eq_true] at c
        exact ⟨p, List.mem_filterMap.mpr ⟨x, hx, ex⟩, c.2.2⟩
  keeps := fun w h h' ⟨K, cs, S⟩ k => ⟨K, cs, PySem.W.Frag.In.keeps S.kin k, fun p hp => let ⟨a, b, c⟩ := S.tabs p hp; ⟨a, b.keeps k, k _ _ c⟩, S.link, S.dic, S.says⟩
theorem obsM_eq {n : Nat} {fa : List He.Fa} {fn : List He.DefD} {ts : List (Str × List (Str × List Int))} {xs : List Str} {g : Addr → Option Obj} {s : Shared} (h : ∀ a, g a = s.heap.get? a) : obsM n fa fn ts xs g = (hookM n fa fn ts xs).obs s := by
  have e : g = s.heap.get? := funext h
  rw [e] <;> rfl
section
variable {fa : List He.Fa} {fn : List He.DefD} {ts : List (Str × List (Str × List Int))} {xs : List Str} {w : World} {K : PySem.W.Frag} {cs : List (Addr × Addr)} {h : Heap}
theorem SaysM.fact (S : SaysM fa fn ts xs w K cs h) (i : Nat) {f : He.Fa} (e : fa[i]? = some f := by rfl) : f.ok K = true := S.says.d.fact i e
theorem SaysM.gd {B : Bs} (S : SaysM fa fn ts xs B.w B.K cs h) (i : Nat) {g : Str} {qs : List (Str × List Int)} {tbl : List (Str × D)} (e : ts[i]? = some (g, qs)) (hg : B.mg g = some (.ref (He.ga B.K g))) (ht : tbl = qs.map fun q => (q.1, .tup (q.2.map .int))) : GdC B g tbl := by
  have e' : (ts.map fun t => ((fun K => He.ga K t.1, t.2.map (·.1)) : He.Tab))[i]? = some (fun K => He.ga K g, qs.map (·.1)) := by rw [List.getElem?_map, e]; rfl
  obtain ⟨es, n, l, kl, low⟩ := S.says.tab i e'
  have dd := S.dic _ (List.mem_of_getElem? e)
  unfold dictB at dd
  dsimp only at dd
  have l : B.K.lookup (He.ga B.K g) = some ⟨.type "dict", none, .dict es n, #[]⟩ := l
  rw [l] at dd
  dsimp only at dd
  refine ⟨He.ga B.K g, es, n, hg, l, kl, low, fun z => ?_⟩
  obtain ⟨r1, r2⟩ := ents_find (z := z) dd
  have hm : ∀ l : List (Str × List Int), (l.map fun q => (q.1, D.tup (q.2.map .int))).lookup z = (l.lookup z).map fun is => D.tup (is.map .int) := by
    intro l
    induction l with
    | nil => rfl
    | cons q l ih =>
      rw [List.map_cons, List.lookup_cons, List.lookup_cons]
      cases z == q.1 with
      | true => rfl
      | false => exact ih
  have hl : tbl.lookup z = (qs.lookup z).map fun is => D.tup (is.map .int) := by
    rw [ht]
    exact hm qs
  rw [hl]
  cases hq : qs.lookup z with
  | some is =>
    rw [hq] at r2
    obtain ⟨en, fe, t, ev, rr⟩ := r2
    refine ⟨en.val, .ref t, ?_, by rw [ev]; rfl, rr⟩
    unfold PySem.W.nsIn
    rw [l]
    dsimp only
    rw [fe]
  | none =>
    rw [hq] at r2
    show PySem.W.nsIn B.K (He.ga B.K g) z = some none
    unfold PySem.W.nsIn
    rw [l]
    dsimp only
    rw [r2]
    dsimp only
    rw [r1]
    rfl
end
end M
end

section
set_option Elab.async false
set_option linter.all false
set_option maxRecDepth 100000
set_option maxHeartbeats 4000000
set_option autoImplicit false
/-! M: the end. -/
namespace M
open PySem PySem.Spec PyProof.Rows L2
section
variable {B : Bs} {T : List Addr} {cls : Nat → Addr} {k : Nat}
theorem fun_of {K : PySem.W.Frag} {x qual : Str} {st : Stmt} {f : Addr} {fd : FuncData} (F : FunD K x qual (defArgs st) (defBody st) (defScope st) [] [] f fd) : Fun K x qual st f fd := by
  obtain ⟨oc, od, dV, kV, doc, pm, an, cdv, ct, osl, rfl, lk, hcd, hD, _⟩ := F.ex
  rcases hD with ⟨_, rfl⟩ | ⟨e, _⟩
  · exact ⟨⟨oc, od, kV, doc, pm, an, cdv, ct, osl, rfl, lk, hcd⟩, F.kp⟩
  · exact absurd rfl e
theorem cal_fn {x : Str} {f : Addr} {fd : FuncData} {ps : List Str} {sp : Spec} {j : Nat} (F : FnOk B.P B.w B.K B.mg B.base (L2.CX B.P B.w) j f fd ps (lift ⟨B.K, T, cls⟩ sp)) (hm : B.mg x = some (.ref f)) (kp : PySem.W.keepIn B.K (.ref f) = true) (b : Binds B.K fd ps []) (hd : (x == ("__debug__" : Str)) = false) :
    ∀ k, j ≤ k → CalC B T cls k x sp := fun k hk =>
  .inl ⟨f, fd, ps, sp, [], [], [], hm, kp, hd, F.mono hk, b, .nil, fun _ => rfl, fun ds μ Q E h => by rw [List.append_nil]; exact h⟩
theorem code_link {K : PySem.W.Frag} {x : Str} {st : Stmt} {qual : Str} {c : Addr} (h : linkB K x c = true) {oc : Value} {od : Option Addr} {kV doc pm cdv ct : Value} {an : Option Addr} {osl : Array (Option Value)}
    (lk : K.lookup (He.ga K x) = some ⟨oc, od, .func (PySem.W.fnOf x qual (defArgs st) (defBody st) (defScope st) .none kV doc pm an cdv ct), osl⟩) : cdv = .ref c := linkB_ok h lk
/-- the law's call begins -/
theorem law_start {H : Hp} {a : Addr} {ns : List Int} {K : PySem.W.Frag} {sp : Spec} (hT : ∀ p ∈ T, H p = some (.tbl #[])) (hS : SqL K H a (ns.map V.int)) (h : ∀ (QM : Post), (∀ μ, QM (.bl true) μ) → sp [.scr (ns.map .int)] ⟨0, fun _ => none⟩ QM (fun _ _ => False)) :
    lift ⟨K, T, cls⟩ sp [.ref a] H (fun v _ => v = .bl true) fun _ _ _ => False := by
  have eh : hid ⟨fun _ => 0, ⟨0, fun _ => none⟩, H, fun _ => none⟩ = H := by
    funext b
    unfold hid
    rw [if_neg]
    rintro (⟨k, c, h1, _⟩ | ⟨o, h1⟩)
    · cases h1
    · cases h1
  refine ⟨⟨fun _ => 0, ⟨0, fun _ => none⟩, H, fun _ => none⟩, [.scr (ns.map .int)], fun d _ => d = .bl true, fun _ _ => False, rfl, ⟨fun k j c d h1 => (by cases h1), fun k c h1 => (by cases h1), fun k c h1 => (by cases h1), fun b hb => ⟨#[], by rw [eh]; exact hT b hb, ?_⟩, fun b o h1 => (by cases h1)⟩, ?_, h _ fun _ => rfl, ?_, fun S' x _ _ q => q.elim⟩
  · exact trivial
  · refine ⟨.ref a, [], rfl, ⟨a, ns.map V.int, rfl, ?_, ?_⟩, rfl⟩
    · show SqL K (hid _) a _
      rw [eh]
      exact hS
    · clear hS h
      induction ns with
      | nil => rfl
      | cons n ns ih => exact ⟨.int n, ns.map V.int, rfl, rfl, ih⟩
  · intro S' d v _ _ r q
    have q : d = .bl true := q
    subst q
    exact r
theorem cx_false {P : Program} {w : World} {H : Hp} {s : Shared} {e : Value} {s' : Shared} (h : L2.CX P w [] H s (fun _ _ _ => False) e s') : False := by
  obtain ⟨_, _, _, _, _, _, _, _, _, _, _, _, hE⟩ := h
  exact hE
end
end M
end

section
set_option Elab.async false
set_option linter.all false
set_option maxRecDepth 100000
set_option maxHeartbeats 4000000
set_option autoImplicit false
/-! the defs of the row, the head, the end. -/
namespace M
open PySem PySem.Spec PyProof.Rows L2
def topS (i : Nat) : Stmt := PySem.Challenge.pw_batchends_k01_statements_read.main.body.getD i (.Pass ⟨0, 0, 0, 0⟩)
abbrev s_is_name : Stmt := topS 12
theorem sc_is_name : FnScope N_is_name ["value"] (defScope s_is_name) := ⟨rfl, rfl, rfl, by decide +kernel, rfl, by decide +kernel, by decide +kernel⟩
theorem k_is_name : chkB N_is_name c_is_name (defScope s_is_name) (defBody s_is_name) = true := by decide +kernel
def d_is_name : He.DefD := ⟨("is_name", none), "is_name", "is_name", defArgs s_is_name, defBody s_is_name, defScope s_is_name, [], []⟩
abbrev s_is_string : Stmt := topS 13
theorem sc_is_string : FnScope N_is_string ["value"] (defScope s_is_string) := ⟨rfl, rfl, rfl, by decide +kernel, rfl, by decide +kernel, by decide +kernel⟩
theorem k_is_string : chkB N_is_string c_is_string (defScope s_is_string) (defBody s_is_string) = true := by decide +kernel
def d_is_string : He.DefD := ⟨("is_string", none), "is_string", "is_string", defArgs s_is_string, defBody s_is_string, defScope s_is_string, [], []⟩
abbrev s_is_text : Stmt := topS 14
theorem sc_is_text : FnScope N_is_text ["value"] (defScope s_is_text) := ⟨rfl, rfl, rfl, by decide +kernel, rfl, by decide +kernel, by decide +kernel⟩
theorem k_is_text : chkB N_is_text c_is_text (defScope s_is_text) (defBody s_is_text) = true := by decide +kernel
def d_is_text : He.DefD := ⟨("is_text", none), "is_text", "is_text", defArgs s_is_text, defBody s_is_text, defScope s_is_text, [], []⟩
abbrev s_first_part : Stmt := topS 18
theorem sc_first_part : FnScope N_first_part ["string"] (defScope s_first_part) := ⟨rfl, rfl, rfl, by decide +kernel, rfl, by decide +kernel, by decide +kernel⟩
theorem k_first_part : chkB N_first_part c_first_part (defScope s_first_part) (defBody s_first_part) = true := by decide +kernel
def d_first_part : He.DefD := ⟨("first_part", none), "first_part", "first_part", defArgs s_first_part, defBody s_first_part, defScope s_first_part, [], []⟩
abbrev s_parts_of : Stmt := topS 19
theorem sc_parts_of : FnScope N_parts_of ["string"] (defScope s_parts_of) := ⟨rfl, rfl, rfl, by decide +kernel, rfl, by decide +kernel, by decide +kernel⟩
theorem k_parts_of : chkB N_parts_of c_parts_of (defScope s_parts_of) (defBody s_parts_of) = true := by decide +kernel
def d_parts_of : He.DefD := ⟨("parts_of", none), "parts_of", "parts_of", defArgs s_parts_of, defBody s_parts_of, defScope s_parts_of, [], []⟩
abbrev s_number_of : Stmt := topS 20
theorem sc_number_of : FnScope N_number_of ["part"] (defScope s_number_of) := ⟨rfl, rfl, rfl, by decide +kernel, rfl, by decide +kernel, by decide +kernel⟩
theorem k_number_of : chkB N_number_of c_number_of (defScope s_number_of) (defBody s_number_of) = true := by decide +kernel
def d_number_of : He.DefD := ⟨("number_of", none), "number_of", "number_of", defArgs s_number_of, defBody s_number_of, defScope s_number_of, [], []⟩
abbrev s_term_of : Stmt := topS 21
theorem sc_term_of : FnScope N_term_of ["part"] (defScope s_term_of) := ⟨rfl, rfl, rfl, by decide +kernel, rfl, by decide +kernel, by decide +kernel⟩
theorem k_term_of : chkB N_term_of c_term_of (defScope s_term_of) (defBody s_term_of) = true := by decide +kernel
def d_term_of : He.DefD := ⟨("term_of", none), "term_of", "term_of", defArgs s_term_of, defBody s_term_of, defScope s_term_of, [], []⟩
abbrev s_parameter_numbers : Stmt := topS 22
theorem sc_parameter_numbers : FnScope N_parameter_numbers ["parts"] (defScope s_parameter_numbers) := ⟨rfl, rfl, rfl, by decide +kernel, rfl, by decide +kernel, by decide +kernel⟩
theorem k_parameter_numbers : chkB N_parameter_numbers c_parameter_numbers (defScope s_parameter_numbers) (defBody s_parameter_numbers) = true := by decide +kernel
def d_parameter_numbers : He.DefD := ⟨("parameter_numbers", none), "parameter_numbers", "parameter_numbers", defArgs s_parameter_numbers, defBody s_parameter_numbers, defScope s_parameter_numbers, [], []⟩
abbrev s_parameters : Stmt := topS 23
theorem sc_parameters : FnScope N_parameters ["parts"] (defScope s_parameters) := ⟨rfl, rfl, rfl, by decide +kernel, rfl, by decide +kernel, by decide +kernel⟩
theorem k_parameters : chkB N_parameters c_parameters (defScope s_parameters) (defBody s_parameters) = true := by decide +kernel
def d_parameters : He.DefD := ⟨("parameters", none), "parameters", "parameters", defArgs s_parameters, defBody s_parameters, defScope s_parameters, [], []⟩
abbrev s_read_statement : Stmt := topS 24
theorem sc_read_statement : FnScope N_read_statement ["string"] (defScope s_read_statement) := ⟨rfl, rfl, rfl, by decide +kernel, rfl, by decide +kernel, by decide +kernel⟩
theorem k_read_statement : chkB N_read_statement c_read_statement (defScope s_read_statement) (defBody s_read_statement) = true := by decide +kernel
def d_read_statement : He.DefD := ⟨("read_statement", none), "read_statement", "read_statement", defArgs s_read_statement, defBody s_read_statement, defScope s_read_statement, [], []⟩
abbrev s_parse_statement : Stmt := topS 25
theorem sc_parse_statement : FnScope N_parse_statement ["string"] (defScope s_parse_statement) := ⟨rfl, rfl, rfl, by decide +kernel, rfl, by decide +kernel, by decide +kernel⟩
theorem k_parse_statement : chkB N_parse_statement c_parse_statement (defScope s_parse_statement) (defBody s_parse_statement) = true := by decide +kernel
def d_parse_statement : He.DefD := ⟨("parse_statement", none), "parse_statement", "parse_statement", defArgs s_parse_statement, defBody s_parse_statement, defScope s_parse_statement, [], []⟩
abbrev s__law_cell : Stmt := topS 27
theorem sc__law_cell : FnScope N__law_cell ["_law_script", "_law_k"] (defScope s__law_cell) := ⟨rfl, rfl, rfl, by decide +kernel, rfl, by decide +kernel, by decide +kernel⟩
theorem k__law_cell : chkB N__law_cell c__law_cell (defScope s__law_cell) (defBody s__law_cell) = true := by decide +kernel
def d__law_cell : He.DefD := ⟨("_law_cell", none), "_law_cell", "_law_cell", defArgs s__law_cell, defBody s__law_cell, defScope s__law_cell, [], []⟩
abbrev s__law_row : Stmt := topS 28
theorem sc__law_row : FnScope N__law_row ["_law_cell_here", "_law_count"] (defScope s__law_row) := ⟨rfl, rfl, rfl, by decide +kernel, rfl, by decide +kernel, by decide +kernel⟩
theorem k__law_row : chkB N__law_row c__law_row (defScope s__law_row) (defBody s__law_row) = true := by decide +kernel
def d__law_row : He.DefD := ⟨("_law_row", none), "_law_row", "_law_row", defArgs s__law_row, defBody s__law_row, defScope s__law_row, [], []⟩
abbrev s__law_name : Stmt := topS 29
theorem sc__law_name : FnScope N__law_name ["_law_number"] (defScope s__law_name) := ⟨rfl, rfl, rfl, by decide +kernel, rfl, by decide +kernel, by decide +kernel⟩
theorem k__law_name : chkB N__law_name c__law_name (defScope s__law_name) (defBody s__law_name) = true := by decide +kernel
def d__law_name : He.DefD := ⟨("_law_name", none), "_law_name", "_law_name", defArgs s__law_name, defBody s__law_name, defScope s__law_name, [], []⟩
abbrev s__law_text : Stmt := topS 30
theorem sc__law_text : FnScope N__law_text ["_law_number"] (defScope s__law_text) := ⟨rfl, rfl, rfl, by decide +kernel, rfl, by decide +kernel, by decide +kernel⟩
theorem k__law_text : chkB N__law_text c__law_text (defScope s__law_text) (defBody s__law_text) = true := by decide +kernel
def d__law_text : He.DefD := ⟨("_law_text", none), "_law_text", "_law_text", defArgs s__law_text, defBody s__law_text, defScope s__law_text, [], []⟩
abbrev s__law_value : Stmt := topS 31
theorem sc__law_value : FnScope N__law_value ["_law_number"] (defScope s__law_value) := ⟨rfl, rfl, rfl, by decide +kernel, rfl, by decide +kernel, by decide +kernel⟩
theorem k__law_value : chkB N__law_value c__law_value (defScope s__law_value) (defBody s__law_value) = true := by decide +kernel
def d__law_value : He.DefD := ⟨("_law_value", none), "_law_value", "_law_value", defArgs s__law_value, defBody s__law_value, defScope s__law_value, [], []⟩
abbrev s__law_term : Stmt := topS 32
theorem sc__law_term : FnScope N__law_term ["_law_number", "_law_used_here"] (defScope s__law_term) := ⟨rfl, rfl, rfl, by decide +kernel, rfl, by decide +kernel, by decide +kernel⟩
theorem k__law_term : chkB N__law_term c__law_term (defScope s__law_term) (defBody s__law_term) = true := by decide +kernel
def d__law_term : He.DefD := ⟨("_law_term", none), "_law_term", "_law_term", defArgs s__law_term, defBody s__law_term, defScope s__law_term, [], []⟩
abbrev s__law_used : Stmt := topS 33
theorem sc__law_used : FnScope N__law_used ["_law_parts"] (defScope s__law_used) := ⟨rfl, rfl, rfl, by decide +kernel, rfl, by decide +kernel, by decide +kernel⟩
theorem k__law_used : chkB N__law_used c__law_used (defScope s__law_used) (defBody s__law_used) = true := by decide +kernel
def d__law_used : He.DefD := ⟨("_law_used", none), "_law_used", "_law_used", defArgs s__law_used, defBody s__law_used, defScope s__law_used, [], []⟩
abbrev s__law_statement : Stmt := topS 34
theorem sc__law_statement : FnScope N__law_statement ["_law_row_here", "_law_names"] (defScope s__law_statement) := ⟨rfl, rfl, rfl, by decide +kernel, rfl, by decide +kernel, by decide +kernel⟩
theorem k__law_statement : chkB N__law_statement c__law_statement (defScope s__law_statement) (defBody s__law_statement) = true := by decide +kernel
def d__law_statement : He.DefD := ⟨("_law_statement", none), "_law_statement", "_law_statement", defArgs s__law_statement, defBody s__law_statement, defScope s__law_statement, [], []⟩
abbrev s__law_written : Stmt := topS 35
theorem sc__law_written : FnScope N__law_written ["_law_parts"] (defScope s__law_written) := ⟨rfl, rfl, rfl, by decide +kernel, rfl, by decide +kernel, by decide +kernel⟩
theorem k__law_written : chkB N__law_written c__law_written (defScope s__law_written) (defBody s__law_written) = true := by decide +kernel
def d__law_written : He.DefD := ⟨("_law_written", none), "_law_written", "_law_written", defArgs s__law_written, defBody s__law_written, defScope s__law_written, [], []⟩
abbrev s__law_listed : Stmt := topS 36
theorem sc__law_listed : FnScope N__law_listed ["_law_parts"] (defScope s__law_listed) := ⟨rfl, rfl, rfl, by decide +kernel, rfl, by decide +kernel, by decide +kernel⟩
theorem k__law_listed : chkB N__law_listed c__law_listed (defScope s__law_listed) (defBody s__law_listed) = true := by decide +kernel
def d__law_listed : He.DefD := ⟨("_law_listed", none), "_law_listed", "_law_listed", defArgs s__law_listed, defBody s__law_listed, defScope s__law_listed, [], []⟩
abbrev s_law : Stmt := topS 37
theorem sc_law : FnScope N_law ["_law_script"] (defScope s_law) := ⟨rfl, rfl, rfl, by decide +kernel, rfl, by decide +kernel, by decide +kernel⟩
theorem k_law : chkB N_law c_law (defScope s_law) (defBody s_law) = true := by decide +kernel
def d_law : He.DefD := ⟨("law", none), "law", "law", defArgs s_law, defBody s_law, defScope s_law, [], []⟩
def fnL : List He.DefD := [d_is_name, d_is_string, d_is_text, d_first_part, d_parts_of, d_number_of, d_term_of, d_parameter_numbers, d_parameters, d_read_statement, d_parse_statement, d__law_cell, d__law_row, d__law_name, d__law_text, d__law_value, d__law_term, d__law_used, d__law_statement, d__law_written, d__law_listed, d_law]
def faL : List He.Fa := [.glo "is_name", .free "all", .str "LETTERS" "abcdefghijklmnopqrstuvwxyz", .free "len", .int "LONGEST_NAME" 8, .free "isinstance", .free "str", .glo "is_string", .str "SIGNS" " !\"#$&'()*+,-./0123456789:;<=>?@ABCDEFGHIJKLMNOPQRSTUVWXYZ[\\]^_`abcdefghijklmnopqrstuvwxyz{|}~", .int "LONGEST_STRING" 200, .glo "is_text", .int "LONGEST_TEXT" 40, .glo "first_part", .glo "parts_of", .glo "number_of", .int "LEAST" (-2147483648), .int "GREATEST" 2147483647, .free "int", .str "DIGITS" "0123456789", .glo "term_of", .int "MOST_PARAMETERS" 4, .glo "parameter_numbers", .free "list", .free "tuple", .glo "parameters", .free "max", .glo "read_statement", .free "range", .glo "FORMS", .glo "parse_statement", .glo "Unreadable", .exc "Unreadable", .glo "_law_cell", .glo "_law_row", .glo "_law_name", .glo "_law_text", .glo "_law_value", .glo "_law_term", .glo "_law_used", .glo "_law_statement", .glo "_law_written", .glo "_law_listed", .glo "law", .free "bool"]
def tsL : List (Str × List (Str × List Int)) := [("FORMS", [("create", [1]), ("drop", [1]), ("put", [3]), ("delete", [2]), ("get", [2]), ("scan", [1, 3]), ("total", [1]), ("begin", [0]), ("commit", [0]), ("rollback", [0]), ("save", [1]), ("undo", [1])])]
def cxL : List Str := ["is_name", "is_string", "number_of", "read_statement"]
section
variable {B : Bs} {T : List Addr} {cls : Nat → Addr}
theorem ok_is_name {f : Addr} {fd : FuncData} (F : Fun B.K "is_name" "is_name" s_is_name f fd) (hl : ∀ cdv, PySem.W.codeIn B.K cdv "is_name" = true → (∃ oc od kV doc pm an ct osl, B.K.lookup f = some ⟨oc, od, .func (PySem.W.fnOf "is_name" "is_name" (defArgs s_is_name) (defBody s_is_name) (defScope s_is_name) .none kV doc pm an cdv ct), osl⟩) → ∃ c P, cdv = .ref c ∧ GxR.TabB B.base B.mg c P ∧ P ∈ T) (z_all : B.mg "all" = none) (y_LETTERS : ∃ t, B.mg "LETTERS" = some (.str "abcdefghijklmnopqrstuvwxyz" t)) (z_len : B.mg "len" = none) (y_LONGEST_NAME : ∃ t, B.mg "LONGEST_NAME" = some (.int 8 t)) (z_isinstance : B.mg "isinstance" = none) (z_str : B.mg "str" = none) : FnOk B.P B.w B.K B.mg B.base (L2.CX B.P B.w) 1 f fd ["value"] (lift ⟨B.K, T, cls⟩ sp_is_name) := by
  refine fn_ok (cd := True) (c := c_is_name) F sc_is_name k_is_name ?_ (fun _ => hl) w_is_name ?_
  · simp only [c_is_name, okS, okE, true_and, and_true, and_assoc]
    repeat' (with_reducible refine And.intro ?_ ?_)
    all_goals first | exact trivial | exact n_allS trivial z_all y_LETTERS | exact c_len z_len | exact (let ⟨t, e⟩ := y_LONGEST_NAME; ⟨_, .int 8, e, ⟨t, rfl⟩, fun _ => rfl⟩) | exact c_isi z_isinstance | exact ⟨z_str, by decide +kernel, by decide +kernel⟩
  · intro ds μ Q QX h
    simp only [sp_is_name, spB] at h
    split at h <;> first | rfl | exact h.elim
theorem ok_is_string {f : Addr} {fd : FuncData} (F : Fun B.K "is_string" "is_string" s_is_string f fd) (hl : ∀ cdv, PySem.W.codeIn B.K cdv "is_string" = true → (∃ oc od kV doc pm an ct osl, B.K.lookup f = some ⟨oc, od, .func (PySem.W.fnOf "is_string" "is_string" (defArgs s_is_string) (defBody s_is_string) (defScope s_is_string) .none kV doc pm an cdv ct), osl⟩) → ∃ c P, cdv = .ref c ∧ GxR.TabB B.base B.mg c P ∧ P ∈ T) (z_all : B.mg "all" = none) (y_SIGNS : ∃ t, B.mg "SIGNS" = some (.str " !\"#$&'()*+,-./0123456789:;<=>?@ABCDEFGHIJKLMNOPQRSTUVWXYZ[\\]^_`abcdefghijklmnopqrstuvwxyz{|}~" t)) (z_len : B.mg "len" = none) (y_LONGEST_STRING : ∃ t, B.mg "LONGEST_STRING" = some (.int 200 t)) (z_isinstance : B.mg "isinstance" = none) (z_str : B.mg "str" = none) : FnOk B.P B.w B.K B.mg B.base (L2.CX B.P B.w) 1 f fd ["value"] (lift ⟨B.K, T, cls⟩ sp_is_string) := by
  refine fn_ok (cd := True) (c := c_is_string) F sc_is_string k_is_string ?_ (fun _ => hl) w_is_string ?_
  · simp only [c_is_string, okS, okE, true_and, and_true, and_assoc]
    repeat' (with_reducible refine And.intro ?_ ?_)
    all_goals first | exact trivial | exact n_allS trivial z_all y_SIGNS | exact c_len z_len | exact (let ⟨t, e⟩ := y_LONGEST_STRING; ⟨_, .int 200, e, ⟨t, rfl⟩, fun _ => rfl⟩) | exact c_isi z_isinstance | exact ⟨z_str, by decide +kernel, by decide +kernel⟩
  · intro ds μ Q QX h
    simp only [sp_is_string, spB] at h
    split at h <;> first | rfl | exact h.elim
theorem ok_is_text {f : Addr} {fd : FuncData} (F : Fun B.K "is_text" "is_text" s_is_text f fd) (z_len : B.mg "len" = none) (y_LONGEST_TEXT : ∃ t, B.mg "LONGEST_TEXT" = some (.int 40 t)) (h_is_string : ∀ k, 1 ≤ k → CalC B T cls k "is_string" sp_is_string) : FnOk B.P B.w B.K B.mg B.base (L2.CX B.P B.w) 2 f fd ["value"] (lift ⟨B.K, T, cls⟩ sp_is_text) := by
  refine fn_ok (cd := False) (c := c_is_text) F sc_is_text k_is_text ?_ (fun z => z.elim) w_is_text ?_
  · simp only [c_is_text, okS, okE, true_and, and_true, and_assoc]
    repeat' (with_reducible refine And.intro ?_ ?_)
    all_goals first | exact trivial | exact c_len z_len | exact (let ⟨t, e⟩ := y_LONGEST_TEXT; ⟨_, .int 40, e, ⟨t, rfl⟩, fun _ => rfl⟩) | exact h_is_string _ (by decide)
  · intro ds μ Q QX h
    simp only [sp_is_text, spB] at h
    split at h <;> first | rfl | exact h.elim
theorem ok_first_part {f : Addr} {fd : FuncData} (F : Fun B.K "first_part" "first_part" s_first_part f fd)  : FnOk B.P B.w B.K B.mg B.base (L2.CX B.P B.w) 1 f fd ["string"] (lift ⟨B.K, T, cls⟩ sp_first_part) := by
  refine fn_ok (cd := False) (c := c_first_part) F sc_first_part k_first_part ?_ (fun z => z.elim) w_first_part ?_
  · simp only [c_first_part, okS, okE, true_and, and_true, and_assoc]
    repeat' (with_reducible refine And.intro ?_ ?_)
    all_goals first | exact trivial | exact m_find | exact m_split
  · intro ds μ Q QX h
    simp only [sp_first_part] at h
    split at h <;> first | rfl | exact h.elim
theorem ok_parts_of {f : Addr} {fd : FuncData} (F : Fun B.K "parts_of" "parts_of" s_parts_of f fd) (z_len : B.mg "len" = none) (h_first_part : ∀ k, 1 ≤ k → CalC B T cls k "first_part" sp_first_part) : FnOk B.P B.w B.K B.mg B.base (L2.CX B.P B.w) 2 f fd ["string"] (lift ⟨B.K, T, cls⟩ sp_parts_of) := by
  refine fn_ok (cd := False) (c := c_parts_of) F sc_parts_of k_parts_of ?_ (fun z => z.elim) w_parts_of ?_
  · simp only [c_parts_of, t1_parts_of, b1_parts_of, okS, okE, true_and, and_true, and_assoc]
    repeat' (with_reducible refine And.intro ?_ ?_)
    all_goals first | exact trivial | exact c_len z_len | exact m_app | exact h_first_part _ (by decide)
  · intro ds μ Q QX h
    simp only [sp_parts_of] at h
    split at h <;> first | rfl | exact h.elim
theorem ok_number_of {f : Addr} {fd : FuncData} (F : Fun B.K "number_of" "number_of" s_number_of f fd) (hl : ∀ cdv, PySem.W.codeIn B.K cdv "number_of" = true → (∃ oc od kV doc pm an ct osl, B.K.lookup f = some ⟨oc, od, .func (PySem.W.fnOf "number_of" "number_of" (defArgs s_number_of) (defBody s_number_of) (defScope s_number_of) .none kV doc pm an cdv ct), osl⟩) → ∃ c P, cdv = .ref c ∧ GxR.TabB B.base B.mg c P ∧ P ∈ T) (y_LEAST : ∃ t, B.mg "LEAST" = some (.int (-2147483648) t)) (y_GREATEST : ∃ t, B.mg "GREATEST" = some (.int 2147483647 t)) (z_int : B.mg "int" = none) (z_all : B.mg "all" = none) (y_DIGITS : ∃ t, B.mg "DIGITS" = some (.str "0123456789" t)) (z_len : B.mg "len" = none) : FnOk B.P B.w B.K B.mg B.base (L2.CX B.P B.w) 1 f fd ["part"] (lift ⟨B.K, T, cls⟩ sp_number_of) := by
  refine fn_ok (cd := True) (c := c_number_of) F sc_number_of k_number_of ?_ (fun _ => hl) w_number_of ?_
  · simp only [c_number_of, okS, okE, true_and, and_true, and_assoc]
    repeat' (with_reducible refine And.intro ?_ ?_)
    all_goals first | exact trivial | exact (let ⟨t, e⟩ := y_LEAST; ⟨_, .int (-2147483648), e, ⟨t, rfl⟩, fun _ => rfl⟩) | exact (let ⟨t, e⟩ := y_GREATEST; ⟨_, .int 2147483647, e, ⟨t, rfl⟩, fun _ => rfl⟩) | exact c_int z_int | exact n_allS trivial z_all y_DIGITS | exact c_len z_len
  · intro ds μ Q QX h
    simp only [sp_number_of] at h
    split at h <;> first | rfl | exact h.elim
theorem ok_term_of {f : Addr} {fd : FuncData} (F : Fun B.K "term_of" "term_of" s_term_of f fd) (z_int : B.mg "int" = none) (y_DIGITS : ∃ t, B.mg "DIGITS" = some (.str "0123456789" t)) (y_MOST_PARAMETERS : ∃ t, B.mg "MOST_PARAMETERS" = some (.int 4 t)) (z_len : B.mg "len" = none) (h_number_of : ∀ k, 1 ≤ k → CalC B T cls k "number_of" sp_number_of) (h_is_text : ∀ k, 2 ≤ k → CalC B T cls k "is_text" sp_is_text) : FnOk B.P B.w B.K B.mg B.base (L2.CX B.P B.w) 3 f fd ["part"] (lift ⟨B.K, T, cls⟩ sp_term_of) := by
  refine fn_ok (cd := False) (c := c_term_of) F sc_term_of k_term_of ?_ (fun z => z.elim) w_term_of ?_
  · simp only [c_term_of, okS, okE, true_and, and_true, and_assoc]
    repeat' (with_reducible refine And.intro ?_ ?_)
    all_goals first | exact trivial | exact c_int z_int | exact (let ⟨t, e⟩ := y_DIGITS; ⟨_, .str "0123456789", e, ⟨t, rfl⟩, fun _ => rfl⟩) | exact (let ⟨t, e⟩ := y_MOST_PARAMETERS; ⟨_, .int 4, e, ⟨t, rfl⟩, fun _ => rfl⟩) | exact c_len z_len | exact h_number_of _ (by decide) | exact h_is_text _ (by decide)
  · intro ds μ Q QX h
    simp only [sp_term_of] at h
    split at h <;> first | rfl | exact h.elim
theorem ok_parameter_numbers {f : Addr} {fd : FuncData} (F : Fun B.K "parameter_numbers" "parameter_numbers" s_parameter_numbers f fd) (z_isinstance : B.mg "isinstance" = none) (z_list : B.mg "list" = none) (z_tuple : B.mg "tuple" = none) : FnOk B.P B.w B.K B.mg B.base (L2.CX B.P B.w) 1 f fd ["parts"] (lift ⟨B.K, T, cls⟩ sp_parameter_numbers) := by
  refine fn_ok (cd := False) (c := c_parameter_numbers) F sc_parameter_numbers k_parameter_numbers ?_ (fun z => z.elim) w_parameter_numbers ?_
  · simp only [c_parameter_numbers, okS, okE, true_and, and_true, and_assoc]
    repeat' (with_reducible refine And.intro ?_ ?_)
    all_goals first | exact trivial | exact c_isi z_isinstance | exact ⟨z_list, by decide +kernel, by decide +kernel⟩ | exact ⟨z_tuple, by decide +kernel, by decide +kernel⟩
  · intro ds μ Q QX h
    simp only [sp_parameter_numbers] at h
    split at h <;> first | rfl | exact h.elim
theorem ok_parameters {f : Addr} {fd : FuncData} (F : Fun B.K "parameters" "parameters" s_parameters f fd) (z_max : B.mg "max" = none) (h_parameter_numbers : ∀ k, 1 ≤ k → CalC B T cls k "parameter_numbers" sp_parameter_numbers) : FnOk B.P B.w B.K B.mg B.base (L2.CX B.P B.w) 2 f fd ["parts"] (lift ⟨B.K, T, cls⟩ sp_parameters) := by
  refine fn_ok (cd := False) (c := c_parameters) F sc_parameters k_parameters ?_ (fun z => z.elim) w_parameters ?_
  · simp only [c_parameters, okS, okE, true_and, and_true, and_assoc]
    repeat' (with_reducible refine And.intro ?_ ?_)
    all_goals first | exact trivial | exact n_maxD z_max | exact h_parameter_numbers _ (by decide)
  · intro ds μ Q QX h
    simp only [sp_parameters] at h
    split at h <;> first | rfl | exact h.elim
theorem ok_read_statement {f : Addr} {fd : FuncData} (F : Fun B.K "read_statement" "read_statement" s_read_statement f fd) (hl : ∀ cdv, PySem.W.codeIn B.K cdv "read_statement" = true → (∃ oc od kV doc pm an ct osl, B.K.lookup f = some ⟨oc, od, .func (PySem.W.fnOf "read_statement" "read_statement" (defArgs s_read_statement) (defBody s_read_statement) (defScope s_read_statement) .none kV doc pm an cdv ct), osl⟩) → ∃ c P, cdv = .ref c ∧ GxR.TabB B.base B.mg c P ∧ P ∈ T) (z_range : B.mg "range" = none) (z_all : B.mg "all" = none) (z_tuple : B.mg "tuple" = none) (z_len : B.mg "len" = none) (g_FORMS : GdC B "FORMS" tbl_FORMS) (h_parameters : ∀ k, 2 ≤ k → CalC B T cls k "parameters" sp_parameters) (h_parameter_numbers : ∀ k, 1 ≤ k → CalC B T cls k "parameter_numbers" sp_parameter_numbers) (h_term_of : ∀ k, 3 ≤ k → CalC B T cls k "term_of" sp_term_of) (h_is_name : ∀ k, 1 ≤ k → CalC B T cls k "is_name" sp_is_name) (h_is_string : ∀ k, 1 ≤ k → CalC B T cls k "is_string" sp_is_string) (h_parts_of : ∀ k, 2 ≤ k → CalC B T cls k "parts_of" sp_parts_of) : FnOk B.P B.w B.K B.mg B.base (L2.CX B.P B.w) 4 f fd ["string"] (lift ⟨B.K, T, cls⟩ sp_read_statement) := by
  refine fn_ok (cd := True) (c := c_read_statement) F sc_read_statement k_read_statement ?_ (fun _ => hl) w_read_statement ?_
  · simp only [c_read_statement, okS, okE, true_and, and_true, and_assoc]
    repeat' (with_reducible refine And.intro ?_ ?_)
    all_goals first | exact trivial | exact n_allN trivial z_all z_range | exact c_tup z_tuple | exact c_len z_len | exact n_gin g_FORMS | exact n_ginT g_FORMS | exact n_gix g_FORMS | exact h_parameters _ (by decide) | exact h_parameter_numbers _ (by decide) | exact h_term_of _ (by decide) | exact h_is_name _ (by decide) | exact h_is_string _ (by decide) | exact h_parts_of _ (by decide)
  · intro ds μ Q QX h
    simp only [sp_read_statement] at h
    split at h <;> first | rfl | exact h.elim
theorem ok_parse_statement {f : Addr} {fd : FuncData} (F : Fun B.K "parse_statement" "parse_statement" s_parse_statement f fd) (r_Unreadable : RsC B cls "Unreadable" x_Unreadable) (h_read_statement : ∀ k, 4 ≤ k → CalC B T cls k "read_statement" sp_read_statement) : FnOk B.P B.w B.K B.mg B.base (L2.CX B.P B.w) 5 f fd ["string"] (lift ⟨B.K, T, cls⟩ sp_parse_statement) := by
  refine fn_ok (cd := False) (c := c_parse_statement) F sc_parse_statement k_parse_statement ?_ (fun z => z.elim) w_parse_statement ?_
  · simp only [c_parse_statement, okS, okE, true_and, and_true, and_assoc]
    repeat' (with_reducible refine And.intro ?_ ?_)
    all_goals first | exact trivial | exact n_rse r_Unreadable | exact h_read_statement _ (by decide)
  · intro ds μ Q QX h
    simp only [sp_parse_statement] at h
    split at h <;> first | rfl | exact h.elim
theorem ok__law_cell {f : Addr} {fd : FuncData} (F : Fun B.K "_law_cell" "_law_cell" s__law_cell f fd) (z_len : B.mg "len" = none) : FnOk B.P B.w B.K B.mg B.base (L2.CX B.P B.w) 1 f fd ["_law_script", "_law_k"] (lift ⟨B.K, T, cls⟩ sp__law_cell) := by
  refine fn_ok (cd := False) (c := c__law_cell) F sc__law_cell k__law_cell ?_ (fun z => z.elim) w__law_cell ?_
  · simp only [c__law_cell, okS, okE, true_and, and_true, and_assoc]
    repeat' (with_reducible refine And.intro ?_ ?_)
    all_goals first | exact trivial | exact c_len z_len
  · intro ds μ Q QX h
    simp only [sp__law_cell] at h
    split at h <;> first | rfl | exact h.elim
theorem ok__law_row {f : Addr} {fd : FuncData} (F : Fun B.K "_law_row" "_law_row" s__law_row f fd) (z_int : B.mg "int" = none) (z_range : B.mg "range" = none) : FnOk B.P B.w B.K B.mg B.base (L2.CX B.P B.w) 1 f fd ["_law_cell_here", "_law_count"] (lift ⟨B.K, T, cls⟩ sp__law_row) := by
  refine fn_ok (cd := False) (c := c__law_row) F sc__law_row k__law_row ?_ (fun z => z.elim) w__law_row ?_
  · simp only [c__law_row, b1__law_row, okS, okE, true_and, and_true, and_assoc]
    repeat' (with_reducible refine And.intro ?_ ?_)
    all_goals first | exact trivial | exact m_app | exact c_int z_int | exact z_range
  · intro ds μ Q QX h
    simp only [sp__law_row] at h
    split at h <;> first | rfl | exact h.elim
theorem ok__law_name {f : Addr} {fd : FuncData} (F : Fun B.K "_law_name" "_law_name" s__law_name f fd) (z_range : B.mg "range" = none) : FnOk B.P B.w B.K B.mg B.base (L2.CX B.P B.w) 1 f fd ["_law_number"] (lift ⟨B.K, T, cls⟩ sp__law_name) := by
  refine fn_ok (cd := False) (c := c__law_name) F sc__law_name k__law_name ?_ (fun z => z.elim) w__law_name ?_
  · simp only [c__law_name, okS, okE, true_and, and_true, and_assoc]
    repeat' (with_reducible refine And.intro ?_ ?_)
    all_goals first | exact trivial | exact m_join | exact z_range
  · intro ds μ Q QX h
    simp only [sp__law_name] at h
    split at h <;> first | rfl | exact h.elim
theorem ok__law_text {f : Addr} {fd : FuncData} (F : Fun B.K "_law_text" "_law_text" s__law_text f fd) (z_range : B.mg "range" = none) (h__law_name : ∀ k, 1 ≤ k → CalC B T cls k "_law_name" sp__law_name) : FnOk B.P B.w B.K B.mg B.base (L2.CX B.P B.w) 2 f fd ["_law_number"] (lift ⟨B.K, T, cls⟩ sp__law_text) := by
  refine fn_ok (cd := False) (c := c__law_text) F sc__law_text k__law_text ?_ (fun z => z.elim) w__law_text ?_
  · simp only [c__law_text, okS, okE, true_and, and_true, and_assoc]
    repeat' (with_reducible refine And.intro ?_ ?_)
    all_goals first | exact trivial | exact m_join | exact z_range | exact h__law_name _ (by decide)
  · intro ds μ Q QX h
    simp only [sp__law_text] at h
    split at h <;> first | rfl | exact h.elim
theorem ok__law_value {f : Addr} {fd : FuncData} (F : Fun B.K "_law_value" "_law_value" s__law_value f fd) (h__law_text : ∀ k, 2 ≤ k → CalC B T cls k "_law_text" sp__law_text) : FnOk B.P B.w B.K B.mg B.base (L2.CX B.P B.w) 3 f fd ["_law_number"] (lift ⟨B.K, T, cls⟩ sp__law_value) := by
  refine fn_ok (cd := False) (c := c__law_value) F sc__law_value k__law_value ?_ (fun z => z.elim) w__law_value ?_
  · simp only [c__law_value, okS, okE, true_and, and_true, and_assoc]
    repeat' (with_reducible refine And.intro ?_ ?_)
    all_goals first | exact trivial | exact h__law_text _ (by decide)
  · intro ds μ Q QX h
    simp only [sp__law_value] at h
    split at h <;> first | rfl | exact h.elim
theorem ok__law_term {f : Addr} {fd : FuncData} (F : Fun B.K "_law_term" "_law_term" s__law_term f fd) (z_isinstance : B.mg "isinstance" = none) (z_str : B.mg "str" = none) (h__law_value : ∀ k, 3 ≤ k → CalC B T cls k "_law_value" sp__law_value) : FnOk B.P B.w B.K B.mg B.base (L2.CX B.P B.w) 4 f fd ["_law_number", "_law_used_here"] (lift ⟨B.K, T, cls⟩ sp__law_term) := by
  refine fn_ok (cd := False) (c := c__law_term) F sc__law_term k__law_term ?_ (fun z => z.elim) w__law_term ?_
  · simp only [c__law_term, okS, okE, true_and, and_true, and_assoc]
    repeat' (with_reducible refine And.intro ?_ ?_)
    all_goals first | exact trivial | exact c_isi z_isinstance | exact ⟨z_str, by decide +kernel, by decide +kernel⟩ | exact h__law_value _ (by decide)
  · intro ds μ Q QX h
    simp only [sp__law_term] at h
    split at h <;> first | rfl | exact h.elim
theorem ok__law_used {f : Addr} {fd : FuncData} (F : Fun B.K "_law_used" "_law_used" s__law_used f fd) (z_max : B.mg "max" = none) (z_isinstance : B.mg "isinstance" = none) (z_tuple : B.mg "tuple" = none) : FnOk B.P B.w B.K B.mg B.base (L2.CX B.P B.w) 1 f fd ["_law_parts"] (lift ⟨B.K, T, cls⟩ sp__law_used) := by
  refine fn_ok (cd := False) (c := c__law_used) F sc__law_used k__law_used ?_ (fun z => z.elim) w__law_used ?_
  · simp only [c__law_used, okS, okE, true_and, and_true, and_assoc]
    repeat' (with_reducible refine And.intro ?_ ?_)
    all_goals first | exact trivial | exact c_max z_max | exact c_isi z_isinstance | exact ⟨z_tuple, by decide +kernel, by decide +kernel⟩
  · intro ds μ Q QX h
    simp only [sp__law_used] at h
    split at h <;> first | rfl | exact h.elim
theorem ok__law_statement {f : Addr} {fd : FuncData} (F : Fun B.K "_law_statement" "_law_statement" s__law_statement f fd) (z_tuple : B.mg "tuple" = none) (z_range : B.mg "range" = none) (z_len : B.mg "len" = none) (h__law_term : ∀ k, 4 ≤ k → CalC B T cls k "_law_term" sp__law_term) (h__law_used : ∀ k, 1 ≤ k → CalC B T cls k "_law_used" sp__law_used) : FnOk B.P B.w B.K B.mg B.base (L2.CX B.P B.w) 5 f fd ["_law_row_here", "_law_names"] (lift ⟨B.K, T, cls⟩ sp__law_statement) := by
  refine fn_ok (cd := False) (c := c__law_statement) F sc__law_statement k__law_statement ?_ (fun z => z.elim) w__law_statement ?_
  · simp only [c__law_statement, b1__law_statement, r1__law_statement, r2__law_statement, r3__law_statement, r4__law_statement, r5__law_statement, r6__law_statement, r7__law_statement, r8__law_statement, okS, okE, true_and, and_true, and_assoc]
    repeat' (with_reducible refine And.intro ?_ ?_)
    all_goals first | exact trivial | exact c_tup z_tuple | exact m_app | exact z_range | exact m_dget | exact c_len z_len | exact n_dsp | exact h__law_term _ (by decide) | exact h__law_used _ (by decide)
  · intro ds μ Q QX h
    simp only [sp__law_statement] at h
    split at h <;> first | rfl | exact h.elim
theorem ok__law_written {f : Addr} {fd : FuncData} (F : Fun B.K "_law_written" "_law_written" s__law_written f fd) (z_isinstance : B.mg "isinstance" = none) (z_str : B.mg "str" = none) (z_int : B.mg "int" = none) : FnOk B.P B.w B.K B.mg B.base (L2.CX B.P B.w) 1 f fd ["_law_parts"] (lift ⟨B.K, T, cls⟩ sp__law_written) := by
  refine fn_ok (cd := False) (c := c__law_written) F sc__law_written k__law_written ?_ (fun z => z.elim) w__law_written ?_
  · simp only [c__law_written, b1__law_written, okS, okE, true_and, and_true, and_assoc]
    repeat' (with_reducible refine And.intro ?_ ?_)
    all_goals first | exact trivial | exact m_join | exact c_isi z_isinstance | exact ⟨z_str, by decide +kernel, by decide +kernel⟩ | exact m_app | exact ⟨z_int, by decide +kernel, by decide +kernel⟩ | exact c_str z_str
  · intro ds μ Q QX h
    simp only [sp__law_written] at h
    split at h <;> first | rfl | exact h.elim
theorem ok__law_listed {f : Addr} {fd : FuncData} (F : Fun B.K "_law_listed" "_law_listed" s__law_listed f fd) (z_isinstance : B.mg "isinstance" = none) (z_tuple : B.mg "tuple" = none) (z_list : B.mg "list" = none) : FnOk B.P B.w B.K B.mg B.base (L2.CX B.P B.w) 1 f fd ["_law_parts"] (lift ⟨B.K, T, cls⟩ sp__law_listed) := by
  refine fn_ok (cd := False) (c := c__law_listed) F sc__law_listed k__law_listed ?_ (fun z => z.elim) w__law_listed ?_
  · simp only [c__law_listed, b1__law_listed, okS, okE, true_and, and_true, and_assoc]
    repeat' (with_reducible refine And.intro ?_ ?_)
    all_goals first | exact trivial | exact c_isi z_isinstance | exact ⟨z_tuple, by decide +kernel, by decide +kernel⟩ | exact c_lst z_list | exact m_app
  · intro ds μ Q QX h
    simp only [sp__law_listed] at h
    split at h <;> first | rfl | exact h.elim
theorem ok_law {f : Addr} {fd : FuncData} (F : Fun B.K "law" "law" s_law f fd) (z_isinstance : B.mg "isinstance" = none) (z_bool : B.mg "bool" = none) (z_len : B.mg "len" = none) (z_tuple : B.mg "tuple" = none) (h_parameters : ∀ k, 2 ≤ k → CalC B T cls k "parameters" sp_parameters) (h__law_listed : ∀ k, 1 ≤ k → CalC B T cls k "_law_listed" sp__law_listed) (h__law_used : ∀ k, 1 ≤ k → CalC B T cls k "_law_used" sp__law_used) (h_parse_statement : ∀ k, 5 ≤ k → CalC B T cls k "parse_statement" sp_parse_statement) (h__law_written : ∀ k, 1 ≤ k → CalC B T cls k "_law_written" sp__law_written) (h__law_statement : ∀ k, 5 ≤ k → CalC B T cls k "_law_statement" sp__law_statement) (h__law_name : ∀ k, 1 ≤ k → CalC B T cls k "_law_name" sp__law_name) (h__law_row : ∀ k, 1 ≤ k → CalC B T cls k "_law_row" sp__law_row) (h__law_cell : ∀ k, 1 ≤ k → CalC B T cls k "_law_cell" sp__law_cell) : FnOk B.P B.w B.K B.mg B.base (L2.CX B.P B.w) 6 f fd ["_law_script"] (lift ⟨B.K, T, cls⟩ sp_law) := by
  refine fn_ok (cd := False) (c := c_law) F sc_law k_law ?_ (fun z => z.elim) w_law ?_
  · simp only [c_law, q6b1_law, q5b1_law, q4b1_law, q3b1_law, q2b1_law, q1b1_law, b1_law, r1_law, okS, okE, true_and, and_true, and_assoc]
    repeat' (with_reducible refine And.intro ?_ ?_)
    all_goals first | exact trivial | exact c_isi z_isinstance | exact ⟨z_bool, by decide +kernel, by decide +kernel⟩ | exact c_len z_len | exact ⟨z_tuple, by decide +kernel, by decide +kernel⟩ | exact h_parameters _ (by decide) | exact h__law_listed _ (by decide) | exact h__law_used _ (by decide) | exact h_parse_statement _ (by decide) | exact h__law_written _ (by decide) | exact h__law_statement _ (by decide) | exact h__law_name _ (by decide) | exact h__law_row _ (by decide) | exact h__law_cell _ (by decide)
  · intro ds μ Q QX h
    simp only [sp_law] at h
    split at h <;> first | rfl | exact h.elim
end
theorem facts {P : Program} {w : World} {K : PySem.W.Frag} {cs : List (Addr × Addr)} {h : Heap} {mg : Str → Option Value} {fa : Addr} (S : SaysM faL fnL tsL cxL w K cs h) (G : h.Ns mainGlobals mg) (hfa : mg ("law" : Str) = some (.ref fa)) :
    ∃ fd : FuncData, (∀ (s : Shared) (u : Value), BindsTo s fd ⟨[u], []⟩ [("_law_script", u)]) ∧ ∀ base : Heap, K.In base → base.Ns mainGlobals mg → (∀ p ∈ cs, LamX.TabB base mg p.1 p.2) → FnOk P w K mg base (L2.CX P w) 6 fa fd ["_law_script"] (lift ⟨K, cs.map (·.2), fun i => if i = 1 then He.ga K "Unreadable" else 0⟩ sp_law) := by
  have X := S.kin
  obtain ⟨fd_is_name, D_is_name⟩ := S.says.d.def_ 0 (d := d_is_name) rfl
  obtain ⟨fd_is_string, D_is_string⟩ := S.says.d.def_ 1 (d := d_is_string) rfl
  obtain ⟨fd_is_text, D_is_text⟩ := S.says.d.def_ 2 (d := d_is_text) rfl
  obtain ⟨fd_first_part, D_first_part⟩ := S.says.d.def_ 3 (d := d_first_part) rfl
  obtain ⟨fd_parts_of, D_parts_of⟩ := S.says.d.def_ 4 (d := d_parts_of) rfl
  obtain ⟨fd_number_of, D_number_of⟩ := S.says.d.def_ 5 (d := d_number_of) rfl
  obtain ⟨fd_term_of, D_term_of⟩ := S.says.d.def_ 6 (d := d_term_of) rfl
  obtain ⟨fd_parameter_numbers, D_parameter_numbers⟩ := S.says.d.def_ 7 (d := d_parameter_numbers) rfl
  obtain ⟨fd_parameters, D_parameters⟩ := S.says.d.def_ 8 (d := d_parameters) rfl
  obtain ⟨fd_read_statement, D_read_statement⟩ := S.says.d.def_ 9 (d := d_read_statement) rfl
  obtain ⟨fd_parse_statement, D_parse_statement⟩ := S.says.d.def_ 10 (d := d_parse_statement) rfl
  obtain ⟨fd__law_cell, D__law_cell⟩ := S.says.d.def_ 11 (d := d__law_cell) rfl
  obtain ⟨fd__law_row, D__law_row⟩ := S.says.d.def_ 12 (d := d__law_row) rfl
  obtain ⟨fd__law_name, D__law_name⟩ := S.says.d.def_ 13 (d := d__law_name) rfl
  obtain ⟨fd__law_text, D__law_text⟩ := S.says.d.def_ 14 (d := d__law_text) rfl
  obtain ⟨fd__law_value, D__law_value⟩ := S.says.d.def_ 15 (d := d__law_value) rfl
  obtain ⟨fd__law_term, D__law_term⟩ := S.says.d.def_ 16 (d := d__law_term) rfl
  obtain ⟨fd__law_used, D__law_used⟩ := S.says.d.def_ 17 (d := d__law_used) rfl
  obtain ⟨fd__law_statement, D__law_statement⟩ := S.says.d.def_ 18 (d := d__law_statement) rfl
  obtain ⟨fd__law_written, D__law_written⟩ := S.says.d.def_ 19 (d := d__law_written) rfl
  obtain ⟨fd__law_listed, D__law_listed⟩ := S.says.d.def_ 20 (d := d__law_listed) rfl
  obtain ⟨fd_law, D_law⟩ := S.says.d.def_ 21 (d := d_law) rfl
  have e := hfa.symm.trans (He.glo_ok X G (S.fact 42 (f := .glo "law") rfl))
  cases e
  refine ⟨fd_law, fun s u => FunD.bindsA (ps := ["_law_script"]) D_law (fun _ _ _ _ _ _ us hl => match us, hl with | [_], _ => rfl) s [u] rfl, fun base hK hN hT => ?_⟩
  let B : Bs := ⟨P, w, K, mg, base⟩
  have m_is_name : B.mg "is_name" = some (.ref (He.ga K "is_name")) := He.glo_ok X G (S.fact 0 (f := .glo "is_name") rfl)
  have z_all : B.mg "all" = none := He.free_ok X G (S.fact 1 (f := .free "all") rfl)
  have y_LETTERS := He.str_ok X G (S.fact 2 (f := .str "LETTERS" "abcdefghijklmnopqrstuvwxyz") rfl)
  have z_len : B.mg "len" = none := He.free_ok X G (S.fact 3 (f := .free "len") rfl)
  have y_LONGEST_NAME := He.int_ok X G (S.fact 4 (f := .int "LONGEST_NAME" 8) rfl)
  have z_isinstance : B.mg "isinstance" = none := He.free_ok X G (S.fact 5 (f := .free "isinstance") rfl)
  have z_str : B.mg "str" = none := He.free_ok X G (S.fact 6 (f := .free "str") rfl)
  have m_is_string : B.mg "is_string" = some (.ref (He.ga K "is_string")) := He.glo_ok X G (S.fact 7 (f := .glo "is_string") rfl)
  have y_SIGNS := He.str_ok X G (S.fact 8 (f := .str "SIGNS" " !\"#$&'()*+,-./0123456789:;<=>?@ABCDEFGHIJKLMNOPQRSTUVWXYZ[\\]^_`abcdefghijklmnopqrstuvwxyz{|}~") rfl)
  have y_LONGEST_STRING := He.int_ok X G (S.fact 9 (f := .int "LONGEST_STRING" 200) rfl)
  have m_is_text : B.mg "is_text" = some (.ref (He.ga K "is_text")) := He.glo_ok X G (S.fact 10 (f := .glo "is_text") rfl)
  have y_LONGEST_TEXT := He.int_ok X G (S.fact 11 (f := .int "LONGEST_TEXT" 40) rfl)
  have m_first_part : B.mg "first_part" = some (.ref (He.ga K "first_part")) := He.glo_ok X G (S.fact 12 (f := .glo "first_part") rfl)
  have m_parts_of : B.mg "parts_of" = some (.ref (He.ga K "parts_of")) := He.glo_ok X G (S.fact 13 (f := .glo "parts_of") rfl)
  have m_number_of : B.mg "number_of" = some (.ref (He.ga K "number_of")) := He.glo_ok X G (S.fact 14 (f := .glo "number_of") rfl)
  have y_LEAST := He.int_ok X G (S.fact 15 (f := .int "LEAST" (-2147483648)) rfl)
  have y_GREATEST := He.int_ok X G (S.fact 16 (f := .int "GREATEST" 2147483647) rfl)
  have z_int : B.mg "int" = none := He.free_ok X G (S.fact 17 (f := .free "int") rfl)
  have y_DIGITS := He.str_ok X G (S.fact 18 (f := .str "DIGITS" "0123456789") rfl)
  have m_term_of : B.mg "term_of" = some (.ref (He.ga K "term_of")) := He.glo_ok X G (S.fact 19 (f := .glo "term_of") rfl)
  have y_MOST_PARAMETERS := He.int_ok X G (S.fact 20 (f := .int "MOST_PARAMETERS" 4) rfl)
  have m_parameter_numbers : B.mg "parameter_numbers" = some (.ref (He.ga K "parameter_numbers")) := He.glo_ok X G (S.fact 21 (f := .glo "parameter_numbers") rfl)
  have z_list : B.mg "list" = none := He.free_ok X G (S.fact 22 (f := .free "list") rfl)
  have z_tuple : B.mg "tuple" = none := He.free_ok X G (S.fact 23 (f := .free "tuple") rfl)
  have m_parameters : B.mg "parameters" = some (.ref (He.ga K "parameters")) := He.glo_ok X G (S.fact 24 (f := .glo "parameters") rfl)
  have z_max : B.mg "max" = none := He.free_ok X G (S.fact 25 (f := .free "max") rfl)
  have m_read_statement : B.mg "read_statement" = some (.ref (He.ga K "read_statement")) := He.glo_ok X G (S.fact 26 (f := .glo "read_statement") rfl)
  have z_range : B.mg "range" = none := He.free_ok X G (S.fact 27 (f := .free "range") rfl)
  have m_FORMS : B.mg "FORMS" = some (.ref (He.ga K "FORMS")) := He.glo_ok X G (S.fact 28 (f := .glo "FORMS") rfl)
  have m_parse_statement : B.mg "parse_statement" = some (.ref (He.ga K "parse_statement")) := He.glo_ok X G (S.fact 29 (f := .glo "parse_statement") rfl)
  have m_Unreadable : B.mg "Unreadable" = some (.ref (He.ga K "Unreadable")) := He.glo_ok X G (S.fact 30 (f := .glo "Unreadable") rfl)
  have e_Unreadable := He.exc_ok (S.fact 31 (f := .exc "Unreadable") rfl)
  have m__law_cell : B.mg "_law_cell" = some (.ref (He.ga K "_law_cell")) := He.glo_ok X G (S.fact 32 (f := .glo "_law_cell") rfl)
  have m__law_row : B.mg "_law_row" = some (.ref (He.ga K "_law_row")) := He.glo_ok X G (S.fact 33 (f := .glo "_law_row") rfl)
  have m__law_name : B.mg "_law_name" = some (.ref (He.ga K "_law_name")) := He.glo_ok X G (S.fact 34 (f := .glo "_law_name") rfl)
  have m__law_text : B.mg "_law_text" = some (.ref (He.ga K "_law_text")) := He.glo_ok X G (S.fact 35 (f := .glo "_law_text") rfl)
  have m__law_value : B.mg "_law_value" = some (.ref (He.ga K "_law_value")) := He.glo_ok X G (S.fact 36 (f := .glo "_law_value") rfl)
  have m__law_term : B.mg "_law_term" = some (.ref (He.ga K "_law_term")) := He.glo_ok X G (S.fact 37 (f := .glo "_law_term") rfl)
  have m__law_used : B.mg "_law_used" = some (.ref (He.ga K "_law_used")) := He.glo_ok X G (S.fact 38 (f := .glo "_law_used") rfl)
  have m__law_statement : B.mg "_law_statement" = some (.ref (He.ga K "_law_statement")) := He.glo_ok X G (S.fact 39 (f := .glo "_law_statement") rfl)
  have m__law_written : B.mg "_law_written" = some (.ref (He.ga K "_law_written")) := He.glo_ok X G (S.fact 40 (f := .glo "_law_written") rfl)
  have m__law_listed : B.mg "_law_listed" = some (.ref (He.ga K "_law_listed")) := He.glo_ok X G (S.fact 41 (f := .glo "_law_listed") rfl)
  have m_law : B.mg "law" = some (.ref (He.ga K "law")) := He.glo_ok X G (S.fact 42 (f := .glo "law") rfl)
  have z_bool : B.mg "bool" = none := He.free_ok X G (S.fact 43 (f := .free "bool") rfl)
  have g_FORMS : GdC B "FORMS" tbl_FORMS := SaysM.gd (B := B) S 0 rfl m_FORMS rfl
  have r_Unreadable : RsC B (fun i => if i = 1 then He.ga K "Unreadable" else 0) "Unreadable" x_Unreadable := ⟨m_Unreadable, e_Unreadable.2.1, by decide, ⟨_, _, _, _, PySem.F.excBase_ValueError, e_Unreadable.1⟩, e_Unreadable.2.2.1, e_Unreadable.2.2.2⟩
  have l_is_name : ∀ cdv, PySem.W.codeIn B.K cdv "is_name" = true → (∃ oc od kV doc pm an ct osl, B.K.lookup (He.ga K "is_name") = some ⟨oc, od, .func (PySem.W.fnOf "is_name" "is_name" (defArgs s_is_name) (defBody s_is_name) (defScope s_is_name) .none kV doc pm an cdv ct), osl⟩) → ∃ c P, cdv = .ref c ∧ GxR.TabB B.base B.mg c P ∧ P ∈ cs.map (·.2) := by
    rintro cdv _ ⟨oc, od, kV, doc, pm, an, ct, osl, lk⟩
    obtain ⟨p, hp, hl⟩ := S.link "is_name" (by decide +kernel)
    have t := hT p hp
    exact ⟨p.1, p.2, code_link hl lk, ⟨t.code, t.bm, t.gP⟩, List.mem_map_of_mem hp⟩
  have F_is_name : Fun B.K "is_name" "is_name" s_is_name (He.ga K "is_name") fd_is_name := fun_of D_is_name
  have o_is_name := ok_is_name (B := B) (T := cs.map (·.2)) (cls := fun i => if i = 1 then He.ga K "Unreadable" else 0) F_is_name l_is_name z_all y_LETTERS z_len y_LONGEST_NAME z_isinstance z_str
  have h_is_name := cal_fn o_is_name m_is_name F_is_name.kp (F_is_name.binds (ps := ["value"]) fun _ _ _ _ _ _ us hl => match us, hl with | [_], _ => rfl) (by decide)
  have l_is_string : ∀ cdv, PySem.W.codeIn B.K cdv "is_string" = true → (∃ oc od kV doc pm an ct osl, B.K.lookup (He.ga K "is_string") = some ⟨oc, od, .func (PySem.W.fnOf "is_string" "is_string" (defArgs s_is_string) (defBody s_is_string) (defScope s_is_string) .none kV doc pm an cdv ct), osl⟩) → ∃ c P, cdv = .ref c ∧ GxR.TabB B.base B.mg c P ∧ P ∈ cs.map (·.2) := by
    rintro cdv _ ⟨oc, od, kV, doc, pm, an, ct, osl, lk⟩
    obtain ⟨p, hp, hl⟩ := S.link "is_string" (by decide +kernel)
    have t := hT p hp
    exact ⟨p.1, p.2, code_link hl lk, ⟨t.code, t.bm, t.gP⟩, List.mem_map_of_mem hp⟩
  have F_is_string : Fun B.K "is_string" "is_string" s_is_string (He.ga K "is_string") fd_is_string := fun_of D_is_string
  have o_is_string := ok_is_string (B := B) (T := cs.map (·.2)) (cls := fun i => if i = 1 then He.ga K "Unreadable" else 0) F_is_string l_is_string z_all y_SIGNS z_len y_LONGEST_STRING z_isinstance z_str
  have h_is_string := cal_fn o_is_string m_is_string F_is_string.kp (F_is_string.binds (ps := ["value"]) fun _ _ _ _ _ _ us hl => match us, hl with | [_], _ => rfl) (by decide)
  have F_is_text : Fun B.K "is_text" "is_text" s_is_text (He.ga K "is_text") fd_is_text := fun_of D_is_text
  have o_is_text := ok_is_text (B := B) (T := cs.map (·.2)) (cls := fun i => if i = 1 then He.ga K "Unreadable" else 0) F_is_text z_len y_LONGEST_TEXT h_is_string
  have h_is_text := cal_fn o_is_text m_is_text F_is_text.kp (F_is_text.binds (ps := ["value"]) fun _ _ _ _ _ _ us hl => match us, hl with | [_], _ => rfl) (by decide)
  have F_first_part : Fun B.K "first_part" "first_part" s_first_part (He.ga K "first_part") fd_first_part := fun_of D_first_part
  have o_first_part := ok_first_part (B := B) (T := cs.map (·.2)) (cls := fun i => if i = 1 then He.ga K "Unreadable" else 0) F_first_part
  have h_first_part := cal_fn o_first_part m_first_part F_first_part.kp (F_first_part.binds (ps := ["string"]) fun _ _ _ _ _ _ us hl => match us, hl with | [_], _ => rfl) (by decide)
  have F_parts_of : Fun B.K "parts_of" "parts_of" s_parts_of (He.ga K "parts_of") fd_parts_of := fun_of D_parts_of
  have o_parts_of := ok_parts_of (B := B) (T := cs.map (·.2)) (cls := fun i => if i = 1 then He.ga K "Unreadable" else 0) F_parts_of z_len h_first_part
  have h_parts_of := cal_fn o_parts_of m_parts_of F_parts_of.kp (F_parts_of.binds (ps := ["string"]) fun _ _ _ _ _ _ us hl => match us, hl with | [_], _ => rfl) (by decide)
  have l_number_of : ∀ cdv, PySem.W.codeIn B.K cdv "number_of" = true → (∃ oc od kV doc pm an ct osl, B.K.lookup (He.ga K "number_of") = some ⟨oc, od, .func (PySem.W.fnOf "number_of" "number_of" (defArgs s_number_of) (defBody s_number_of) (defScope s_number_of) .none kV doc pm an cdv ct), osl⟩) → ∃ c P, cdv = .ref c ∧ GxR.TabB B.base B.mg c P ∧ P ∈ cs.map (·.2) := by
    rintro cdv _ ⟨oc, od, kV, doc, pm, an, ct, osl, lk⟩
    obtain ⟨p, hp, hl⟩ := S.link "number_of" (by decide +kernel)
    have t := hT p hp
    exact ⟨p.1, p.2, code_link hl lk, ⟨t.code, t.bm, t.gP⟩, List.mem_map_of_mem hp⟩
  have F_number_of : Fun B.K "number_of" "number_of" s_number_of (He.ga K "number_of") fd_number_of := fun_of D_number_of
  have o_number_of := ok_number_of (B := B) (T := cs.map (·.2)) (cls := fun i => if i = 1 then He.ga K "Unreadable" else 0) F_number_of l_number_of y_LEAST y_GREATEST z_int z_all y_DIGITS z_len
  have h_number_of := cal_fn o_number_of m_number_of F_number_of.kp (F_number_of.binds (ps := ["part"]) fun _ _ _ _ _ _ us hl => match us, hl with | [_], _ => rfl) (by decide)
  have F_term_of : Fun B.K "term_of" "term_of" s_term_of (He.ga K "term_of") fd_term_of := fun_of D_term_of
  have o_term_of := ok_term_of (B := B) (T := cs.map (·.2)) (cls := fun i => if i = 1 then He.ga K "Unreadable" else 0) F_term_of z_int y_DIGITS y_MOST_PARAMETERS z_len h_number_of h_is_text
  have h_term_of := cal_fn o_term_of m_term_of F_term_of.kp (F_term_of.binds (ps := ["part"]) fun _ _ _ _ _ _ us hl => match us, hl with | [_], _ => rfl) (by decide)
  have F_parameter_numbers : Fun B.K "parameter_numbers" "parameter_numbers" s_parameter_numbers (He.ga K "parameter_numbers") fd_parameter_numbers := fun_of D_parameter_numbers
  have o_parameter_numbers := ok_parameter_numbers (B := B) (T := cs.map (·.2)) (cls := fun i => if i = 1 then He.ga K "Unreadable" else 0) F_parameter_numbers z_isinstance z_list z_tuple
  have h_parameter_numbers := cal_fn o_parameter_numbers m_parameter_numbers F_parameter_numbers.kp (F_parameter_numbers.binds (ps := ["parts"]) fun _ _ _ _ _ _ us hl => match us, hl with | [_], _ => rfl) (by decide)
  have F_parameters : Fun B.K "parameters" "parameters" s_parameters (He.ga K "parameters") fd_parameters := fun_of D_parameters
  have o_parameters := ok_parameters (B := B) (T := cs.map (·.2)) (cls := fun i => if i = 1 then He.ga K "Unreadable" else 0) F_parameters z_max h_parameter_numbers
  have h_parameters := cal_fn o_parameters m_parameters F_parameters.kp (F_parameters.binds (ps := ["parts"]) fun _ _ _ _ _ _ us hl => match us, hl with | [_], _ => rfl) (by decide)
  have l_read_statement : ∀ cdv, PySem.W.codeIn B.K cdv "read_statement" = true → (∃ oc od kV doc pm an ct osl, B.K.lookup (He.ga K "read_statement") = some ⟨oc, od, .func (PySem.W.fnOf "read_statement" "read_statement" (defArgs s_read_statement) (defBody s_read_statement) (defScope s_read_statement) .none kV doc pm an cdv ct), osl⟩) → ∃ c P, cdv = .ref c ∧ GxR.TabB B.base B.mg c P ∧ P ∈ cs.map (·.2) := by
    rintro cdv _ ⟨oc, od, kV, doc, pm, an, ct, osl, lk⟩
    obtain ⟨p, hp, hl⟩ := S.link "read_statement" (by decide +kernel)
    have t := hT p hp
    exact ⟨p.1, p.2, code_link hl lk, ⟨t.code, t.bm, t.gP⟩, List.mem_map_of_mem hp⟩
  have F_read_statement : Fun B.K "read_statement" "read_statement" s_read_statement (He.ga K "read_statement") fd_read_statement := fun_of D_read_statement
  have o_read_statement := ok_read_statement (B := B) (T := cs.map (·.2)) (cls := fun i => if i = 1 then He.ga K "Unreadable" else 0) F_read_statement l_read_statement z_range z_all z_tuple z_len g_FORMS h_parameters h_parameter_numbers h_term_of h_is_name h_is_string h_parts_of
  have h_read_statement := cal_fn o_read_statement m_read_statement F_read_statement.kp (F_read_statement.binds (ps := ["string"]) fun _ _ _ _ _ _ us hl => match us, hl with | [_], _ => rfl) (by decide)
  have F_parse_statement : Fun B.K "parse_statement" "parse_statement" s_parse_statement (He.ga K "parse_statement") fd_parse_statement := fun_of D_parse_statement
  have o_parse_statement := ok_parse_statement (B := B) (T := cs.map (·.2)) (cls := fun i => if i = 1 then He.ga K "Unreadable" else 0) F_parse_statement r_Unreadable h_read_statement
  have h_parse_statement := cal_fn o_parse_statement m_parse_statement F_parse_statement.kp (F_parse_statement.binds (ps := ["string"]) fun _ _ _ _ _ _ us hl => match us, hl with | [_], _ => rfl) (by decide)
  have F__law_cell : Fun B.K "_law_cell" "_law_cell" s__law_cell (He.ga K "_law_cell") fd__law_cell := fun_of D__law_cell
  have o__law_cell := ok__law_cell (B := B) (T := cs.map (·.2)) (cls := fun i => if i = 1 then He.ga K "Unreadable" else 0) F__law_cell z_len
  have h__law_cell := cal_fn o__law_cell m__law_cell F__law_cell.kp (F__law_cell.binds (ps := ["_law_script", "_law_k"]) fun _ _ _ _ _ _ us hl => match us, hl with | [_, _], _ => rfl) (by decide)
  have F__law_row : Fun B.K "_law_row" "_law_row" s__law_row (He.ga K "_law_row") fd__law_row := fun_of D__law_row
  have o__law_row := ok__law_row (B := B) (T := cs.map (·.2)) (cls := fun i => if i = 1 then He.ga K "Unreadable" else 0) F__law_row z_int z_range
  have h__law_row := cal_fn o__law_row m__law_row F__law_row.kp (F__law_row.binds (ps := ["_law_cell_here", "_law_count"]) fun _ _ _ _ _ _ us hl => match us, hl with | [_, _], _ => rfl) (by decide)
  have F__law_name : Fun B.K "_law_name" "_law_name" s__law_name (He.ga K "_law_name") fd__law_name := fun_of D__law_name
  have o__law_name := ok__law_name (B := B) (T := cs.map (·.2)) (cls := fun i => if i = 1 then He.ga K "Unreadable" else 0) F__law_name z_range
  have h__law_name := cal_fn o__law_name m__law_name F__law_name.kp (F__law_name.binds (ps := ["_law_number"]) fun _ _ _ _ _ _ us hl => match us, hl with | [_], _ => rfl) (by decide)
  have F__law_text : Fun B.K "_law_text" "_law_text" s__law_text (He.ga K "_law_text") fd__law_text := fun_of D__law_text
  have o__law_text := ok__law_text (B := B) (T := cs.map (·.2)) (cls := fun i => if i = 1 then He.ga K "Unreadable" else 0) F__law_text z_range h__law_name
  have h__law_text := cal_fn o__law_text m__law_text F__law_text.kp (F__law_text.binds (ps := ["_law_number"]) fun _ _ _ _ _ _ us hl => match us, hl with | [_], _ => rfl) (by decide)
  have F__law_value : Fun B.K "_law_value" "_law_value" s__law_value (He.ga K "_law_value") fd__law_value := fun_of D__law_value
  have o__law_value := ok__law_value (B := B) (T := cs.map (·.2)) (cls := fun i => if i = 1 then He.ga K "Unreadable" else 0) F__law_value h__law_text
  have h__law_value := cal_fn o__law_value m__law_value F__law_value.kp (F__law_value.binds (ps := ["_law_number"]) fun _ _ _ _ _ _ us hl => match us, hl with | [_], _ => rfl) (by decide)
  have F__law_term : Fun B.K "_law_term" "_law_term" s__law_term (He.ga K "_law_term") fd__law_term := fun_of D__law_term
  have o__law_term := ok__law_term (B := B) (T := cs.map (·.2)) (cls := fun i => if i = 1 then He.ga K "Unreadable" else 0) F__law_term z_isinstance z_str h__law_value
  have h__law_term := cal_fn o__law_term m__law_term F__law_term.kp (F__law_term.binds (ps := ["_law_number", "_law_used_here"]) fun _ _ _ _ _ _ us hl => match us, hl with | [_, _], _ => rfl) (by decide)
  have F__law_used : Fun B.K "_law_used" "_law_used" s__law_used (He.ga K "_law_used") fd__law_used := fun_of D__law_used
  have o__law_used := ok__law_used (B := B) (T := cs.map (·.2)) (cls := fun i => if i = 1 then He.ga K "Unreadable" else 0) F__law_used z_max z_isinstance z_tuple
  have h__law_used := cal_fn o__law_used m__law_used F__law_used.kp (F__law_used.binds (ps := ["_law_parts"]) fun _ _ _ _ _ _ us hl => match us, hl with | [_], _ => rfl) (by decide)
  have F__law_statement : Fun B.K "_law_statement" "_law_statement" s__law_statement (He.ga K "_law_statement") fd__law_statement := fun_of D__law_statement
  have o__law_statement := ok__law_statement (B := B) (T := cs.map (·.2)) (cls := fun i => if i = 1 then He.ga K "Unreadable" else 0) F__law_statement z_tuple z_range z_len h__law_term h__law_used
  have h__law_statement := cal_fn o__law_statement m__law_statement F__law_statement.kp (F__law_statement.binds (ps := ["_law_row_here", "_law_names"]) fun _ _ _ _ _ _ us hl => match us, hl with | [_, _], _ => rfl) (by decide)
  have F__law_written : Fun B.K "_law_written" "_law_written" s__law_written (He.ga K "_law_written") fd__law_written := fun_of D__law_written
  have o__law_written := ok__law_written (B := B) (T := cs.map (·.2)) (cls := fun i => if i = 1 then He.ga K "Unreadable" else 0) F__law_written z_isinstance z_str z_int
  have h__law_written := cal_fn o__law_written m__law_written F__law_written.kp (F__law_written.binds (ps := ["_law_parts"]) fun _ _ _ _ _ _ us hl => match us, hl with | [_], _ => rfl) (by decide)
  have F__law_listed : Fun B.K "_law_listed" "_law_listed" s__law_listed (He.ga K "_law_listed") fd__law_listed := fun_of D__law_listed
  have o__law_listed := ok__law_listed (B := B) (T := cs.map (·.2)) (cls := fun i => if i = 1 then He.ga K "Unreadable" else 0) F__law_listed z_isinstance z_tuple z_list
  have h__law_listed := cal_fn o__law_listed m__law_listed F__law_listed.kp (F__law_listed.binds (ps := ["_law_parts"]) fun _ _ _ _ _ _ us hl => match us, hl with | [_], _ => rfl) (by decide)
  have F_law : Fun B.K "law" "law" s_law (He.ga K "law") fd_law := fun_of D_law
  have o_law := ok_law (B := B) (T := cs.map (·.2)) (cls := fun i => if i = 1 then He.ga K "Unreadable" else 0) F_law z_isinstance z_bool z_len z_tuple h_parameters h__law_listed h__law_used h_parse_statement h__law_written h__law_statement h__law_name h__law_row h__law_cell
  exact o_law
abbrev RR : PySem.W.OpenRow := PySem.W.OpenLaw.row PySem.Challenge.rw_batchends_k01_statements_read
def loose0 : List PySem.Str := ["__name__", "EndError", "Unreadable", "LETTERS", "DIGITS", "SIGNS", "LEAST", "GREATEST", "LONGEST_NAME", "LONGEST_TEXT", "LONGEST_STRING", "is_name", "is_string", "is_text", "FORMS", "MOST_PARAMETERS", "first_part", "parts_of", "number_of", "term_of", "parameter_numbers", "parameters", "read_statement", "parse_statement", "_law_cell", "_law_row", "_law_name", "_law_text", "_law_value", "_law_term"]
def loose1 : List PySem.Str := ["_law_used", "_law_statement", "_law_written", "_law_listed"]
def looseL : List PySem.Str := loose0 ++ loose1
abbrev hkL : PySem.W.Hook := hookM 5 faL fnL tsL cxL
def obL (s : PySem.W.SharedT) : AlM := obsM 5 faL fnL tsL cxL (HandSHeadRun.getT s)
theorem obL_eq (s : PySem.W.SharedT) : obL s = hkL.obs s.abs := obsM_eq (HandSHeadRun.getT_eq s)
set_option maxHeartbeats 0 in
theorem run_false (w : World) : HandSHeadRun.RunEq RR (PySem.W.view RR.prog [37]) hkL obL 4000 looseL (w.withFollow "special-get-raises" false) := by
  intro os
  kernel_rfl
set_option maxHeartbeats 0 in
theorem run_true (w : World) : HandSHeadRun.RunEq RR (PySem.W.view RR.prog [37]) hkL obL 4000 looseL (w.withFollow "special-get-raises" true) := by
  intro os
  kernel_rfl
theorem runL (w : World) : HandSHeadRun.RunEq RR (PySem.W.view RR.prog [37]) hkL obL 4000 looseL w := PySem.W.byRow2 "special-get-raises" (P := fun w => HandSHeadRun.RunEq RR (PySem.W.view RR.prog [37]) hkL obL 4000 looseL w) run_false run_true w
end M
open PySem PySem.W PySem.Calls PyProof.Rows
set_option maxHeartbeats 0 in
theorem PySem.Challenge.cw_batchends_k01_statements_read_holds : PySem.Challenge.rw_batchends_k01_statements_read.Holds := by
  w_on; o_law
  refine HandSHeadRun.head_any (r := OpenLaw.row PySem.Challenge.rw_batchends_k01_statements_read) (q := view (OpenLaw.row PySem.Challenge.rw_batchends_k01_statements_read).prog [37]) (H := M.hkL) (ob := M.obL) (M := 4000) (loose := M.looseL) (d := HandSHeadRun.topDef (OpenLaw.row PySem.Challenge.rw_batchends_k01_statements_read).prog 37) (kwd := []) M.obL_eq
    (by kernel_rfl) (fun s => by kernel_rfl) M.runL (by kernel_rfl) (by kernel_rfl) (by kernel_rfl) (by rfl) (by first | assumption | decide +kernel) (by decide +kernel) ⟨rfl, rfl, rfl, rfl, rfl, by decide +kernel⟩ ?hw ?hc
  case hw => w_witness2
  case hc =>
    refine LamX.walk_ofTsE (l := PySem.Challenge.rw_batchends_k01_statements_read) (n := 63) (k := 6) (x := "_law_script") (CX := fun w => L2.CX (PySem.Challenge.rw_batchends_k01_statements_read).prog w) rfl (by decide) (by kernel_rfl) ⟨rfl, by decide, by decide⟩ ?F (fun _ _ _ _ _ z => M.cx_false z)
    intro w mg fa h Y G hmg0
    obtain ⟨K, cs, S⟩ := Y
    have hmg : mg ("law" : PySem.Str) = some (.ref fa) := by
      have e : (HandSHeadRun.topDef (OpenLaw.row PySem.Challenge.rw_batchends_k01_statements_read).prog 37).name = ("law" : PySem.Str) := by kernel_rfl
      rw [← e]
      exact hmg0
    obtain ⟨fd, hb, hF⟩ := M.facts (P := (PySem.Challenge.rw_batchends_k01_statements_read).prog) (w := w) S G hmg
    exact ⟨K, S.kin, fd, cs, _, fun p hp => (S.tabs p hp).2.2, fun p hp => (S.tabs p hp).1, fun p hp => (S.tabs p hp).2.1, hb, fun H a ns hl hbits hH hS => M.law_start (fun b hb2 => by
      obtain ⟨p, hp, e⟩ := List.mem_map.mp hb2
      rw [← e]
      exact hH p hp) hS fun QM hQ => M.law_spec ns hl hbits QM hQ, hF⟩
end
