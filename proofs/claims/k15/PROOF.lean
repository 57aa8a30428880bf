import PyProof.Rows.All
import Wide.All
import OpenK.AllK
import Wide.FinOn
import Lean
import HandS.ForMost
import HandS.Exc
import HandS.TryOnly
import HandS.ExcOwn
import HandS.WordsExc
import HandS.Defaults
import HandS.Flow
import HandS.Style
import HandS.IsInst
import HandS.Wide
import HandS.TupAny
import HandS.TupMul
import HandS.Head0
import HandS.Head1
import HandS.Head2
import HandS.HeadEnd
import HandS.HeadHook1
import HandS.HeadHook2
import HandS.HeadHook3
import HandS.HeadHook4
import HandS.Conv
import KE.GoesEnum
import HandS.Strs
import HandS.SortInts
import KE.SortData
import HandS.Deep
import PySem.Challenge.RW_slicechains_k15_whole_disjoint_chains_an
set_option Elab.async false
set_option linter.all false
set_option maxRecDepth 100000
set_option maxHeartbeats 0
/-! A layer over HandS: values as data (Dt), the immutable part of the heap hidden, mutable lists and instances in a map (Cells). -/
namespace Sc
open PySem PySem.Spec PyProof.Rows L2

inductive Dt where
  | non | bl (b : Bool) | int (i : Int) | str (x : Str) | tup (xs : List Dt) | lst (xs : List Dt) | ref (a : Addr)

mutual
def Rp (K : PySem.W.Frag) (I : Hp) : Dt → V → Prop
  | .non, v => v = .non
  | .bl b, v => v = .bl b
  | .int i, v => v = .int i
  | .str x, v => v = .str x
  | .ref a, v => v = .ref a
  | .tup ds, v => ∃ a xs, v = .ref a ∧ SqT K I a xs ∧ Rps K I ds xs
  | .lst ds, v => ∃ a xs, v = .ref a ∧ SqL K I a xs ∧ Rps K I ds xs
def Rps (K : PySem.W.Frag) (I : Hp) : List Dt → List V → Prop
  | [], xs => xs = []
  | d :: ds, xs => ∃ v vs, xs = v :: vs ∧ Rp K I d v ∧ Rps K I ds vs
end

theorem sqL_mono {K : PySem.W.Frag} {H H' : Hp} {a : Addr} {xs : List V} (e : Same H H') (h : SqL K H a xs) : SqL K H' a xs := by
  rcases h with (h | ⟨o, h⟩) | h
  · exact .inl (.inl (e _ _ h))
  · exact .inl (.inr ⟨o, e _ _ h⟩)
  · exact .inr h
theorem sqT_mono {K : PySem.W.Frag} {H H' : Hp} {a : Addr} {xs : List V} (e : Same H H') (h : SqT K H a xs) : SqT K H' a xs := by
  rcases h with (h | ⟨o, h⟩) | h
  · exact .inl (.inl (e _ _ h))
  · exact .inl (.inr ⟨o, e _ _ h⟩)
  · exact .inr h
mutual
theorem Rp.mono {K : PySem.W.Frag} {I I' : Hp} (e : Same I I') : ∀ {d : Dt} {v : V}, Rp K I d v → Rp K I' d v
  | .non, _, h => h
  | .bl _, _, h => h
  | .int _, _, h => h
  | .str _, _, h => h
  | .ref _, _, h => h
  | .tup ds, _, h => by
    obtain ⟨a, xs, e1, h1, h2⟩ := h
    exact ⟨a, xs, e1, sqT_mono e h1, Rps.mono e h2⟩
  | .lst ds, _, h => by
    obtain ⟨a, xs, e1, h1, h2⟩ := h
    exact ⟨a, xs, e1, sqL_mono e h1, Rps.mono e h2⟩
theorem Rps.mono {K : PySem.W.Frag} {I I' : Hp} (e : Same I I') : ∀ {ds : List Dt} {vs : List V}, Rps K I ds vs → Rps K I' ds vs
  | [], _, h => h
  | d :: ds, _, h => by
    obtain ⟨v, vs, e1, h1, h2⟩ := h
    exact ⟨v, vs, e1, Rp.mono e h1, Rps.mono e h2⟩
end
section
variable {K : PySem.W.Frag} {I : Hp}
theorem Rps.length : ∀ {ds : List Dt} {vs : List V}, Rps K I ds vs → vs.length = ds.length
  | [], _, h => by cases (show _ = _ from h); rfl
  | d :: ds, _, ⟨v, vs, e1, h1, h2⟩ => by subst e1; simp [Rps.length h2]
theorem Rps.get : ∀ {ds : List Dt} {vs : List V} {i : Nat} {d : Dt}, Rps K I ds vs → ds[i]? = some d → ∃ v, vs[i]? = some v ∧ Rp K I d v
  | [], _, i, d, h, e => by simp at e
  | d :: ds, _, 0, _, ⟨v, vs, e1, h1, h2⟩, e => by
    subst e1
    simp at e
    subst e
    exact ⟨v, rfl, h1⟩
  | d :: ds, _, i + 1, _, ⟨v, vs, e1, h1, h2⟩, e => by
    subst e1
    obtain ⟨u, q1, q2⟩ := Rps.get (i := i) h2 (by simpa using e)
    exact ⟨u, by simpa using q1, q2⟩
theorem Rps.get' : ∀ {ds : List Dt} {vs : List V} {i : Nat} {v : V}, Rps K I ds vs → vs[i]? = some v → ∃ d, ds[i]? = some d ∧ Rp K I d v
  | [], _, i, d, h, e => by cases (show _ = _ from h); simp at e
  | d :: ds, _, 0, _, ⟨v, vs, e1, h1, h2⟩, e => by
    subst e1
    simp at e
    subst e
    exact ⟨d, rfl, h1⟩
  | d :: ds, _, i + 1, _, ⟨v, vs, e1, h1, h2⟩, e => by
    subst e1
    obtain ⟨u, q1, q2⟩ := Rps.get' (i := i) h2 (by simpa using e)
    exact ⟨u, by simpa using q1, q2⟩
theorem Rps.app : ∀ {ds es : List Dt} {vs us : List V}, Rps K I ds vs → Rps K I es us → Rps K I (ds ++ es) (vs ++ us)
  | [], _, _, _, h, h' => by cases (show _ = _ from h); exact h'
  | d :: ds, es, _, us, ⟨v, vs, e1, h1, h2⟩, h' => by
    subst e1
    exact ⟨v, vs ++ us, rfl, h1, Rps.app h2 h'⟩
theorem Rps.take : ∀ {ds : List Dt} {vs : List V} (n : Nat), Rps K I ds vs → Rps K I (ds.take n) (vs.take n)
  | [], _, n, h => by cases (show _ = _ from h); simp [Rps]
  | d :: ds, _, 0, ⟨v, vs, e1, h1, h2⟩ => by subst e1; simp [Rps]
  | d :: ds, _, n + 1, ⟨v, vs, e1, h1, h2⟩ => by
    subst e1
    exact ⟨v, vs.take n, rfl, h1, Rps.take n h2⟩
theorem Rps.drop : ∀ {ds : List Dt} {vs : List V} (n : Nat), Rps K I ds vs → Rps K I (ds.drop n) (vs.drop n)
  | [], _, n, h => by cases (show _ = _ from h); simp [Rps]
  | d :: ds, _, 0, h => h
  | d :: ds, _, n + 1, ⟨v, vs, e1, h1, h2⟩ => by
    subst e1
    exact Rps.drop n h2
theorem Rps.set : ∀ {ds : List Dt} {vs : List V} {d : Dt} {v : V} (n : Nat), Rps K I ds vs → Rp K I d v → Rps K I (ds.set n d) (vs.set n v)
  | [], _, _, _, n, h, _ => by cases (show _ = _ from h); simp [Rps]
  | d :: ds, _, _, u, 0, ⟨v, vs, e1, h1, h2⟩, h' => by
    subst e1
    exact ⟨u, vs, rfl, h', h2⟩
  | d :: ds, _, _, u, n + 1, ⟨v, vs, e1, h1, h2⟩, h' => by
    subst e1
    exact ⟨v, vs.set n u, rfl, h1, Rps.set n h2 h'⟩
theorem Rps.one {d : Dt} {v : V} (h : Rp K I d v) : Rps K I [d] [v] := ⟨v, [], rfl, h, rfl⟩
theorem Rps.rev : ∀ {ds : List Dt} {vs : List V}, Rps K I ds vs → Rps K I ds.reverse vs.reverse
  | [], _, h => by cases (show _ = _ from h); exact rfl
  | d :: ds, _, ⟨v, vs, e1, h1, h2⟩ => by
    subst e1
    rw [List.reverse_cons, List.reverse_cons]
    exact Rps.app (Rps.rev h2) (Rps.one h1)
theorem Rps.ints : ∀ {ns : List Int} {vs : List V}, Rps K I (ns.map Dt.int) vs → vs = ns.map V.int
  | [], _, h => h
  | n :: ns, _, ⟨v, vs, e1, h1, h2⟩ => by
    subst e1
    cases (show v = _ from h1)
    rw [Rps.ints h2]
    rfl
theorem Rps.of_ints : ∀ (ns : List Int), Rps K I (ns.map Dt.int) (ns.map V.int)
  | [] => rfl
  | n :: ns => ⟨.int n, ns.map V.int, rfl, rfl, Rps.of_ints ns⟩
theorem Rps.bls : ∀ {ns : List Bool} {vs : List V}, Rps K I (ns.map Dt.bl) vs → vs = ns.map V.bl
  | [], _, h => h
  | n :: ns, _, ⟨v, vs, e1, h1, h2⟩ => by
    subst e1
    cases (show v = _ from h1)
    rw [Rps.bls h2]
    rfl
theorem Rps.strs : ∀ {ns : List Str} {vs : List V}, Rps K I (ns.map Dt.str) vs → vs = ns.map V.str
  | [], _, h => h
  | n :: ns, _, ⟨v, vs, e1, h1, h2⟩ => by
    subst e1
    cases (show v = _ from h1)
    rw [Rps.strs h2]
    rfl
end

/-! ### mutable objects -/
inductive Cell where
  | lst (ds : List Dt)
  | ins (C : Addr) (fs : List (Str × Dt))
abbrev Cells := Addr → Option Cell
def Cells.put (S : Cells) (a : Addr) (c : Cell) : Cells := fun b => if b = a then some c else S b
def Cells.del (S : Cells) (a : Addr) : Cells := fun b => if b = a then none else S b
theorem Cells.put_same {S : Cells} {a : Addr} {c : Cell} : S.put a c a = some c := if_pos rfl
theorem Cells.put_ne {S : Cells} {a b : Addr} {c : Cell} (h : b ≠ a) : S.put a c b = S b := if_neg h
theorem Cells.put_put {S : Cells} {a : Addr} {c d : Cell} : (S.put a c).put a d = S.put a d := by
  funext b
  unfold Cells.put
  by_cases h : b = a
  · rw [if_pos h, if_pos h]
  · rw [if_neg h, if_neg h, if_neg h]
theorem Cells.ne_new {S : Cells} {a b : Addr} {c : Cell} (h : S a = some c) (h' : S b = none) : a ≠ b := fun e => by
  rw [e, h'] at h
  cases h
/-- the immutable part -/
def wo (S : Cells) (H : Hp) : Hp := fun a => if (S a).isSome = true then none else H a
theorem wo_none {S : Cells} {H : Hp} {a : Addr} (h : S a = none) : wo S H a = H a := by
  unfold wo
  rw [h]
  exact if_neg (by decide)
theorem wo_some {S : Cells} {H : Hp} {a : Addr} {c : Cell} (h : S a = some c) : wo S H a = none := by
  unfold wo
  rw [h]
  exact if_pos rfl
theorem wo_le {S : Cells} {H : Hp} : Same (wo S H) H := fun a o h => by
  cases e : S a with
  | none => rw [wo_none e] at h; exact h
  | some c => rw [wo_some e] at h; cases h
def Rfs (K : PySem.W.Frag) (I : Hp) : List (Str × Dt) → List (Str × V) → Prop
  | [], vs => vs = []
  | (x, d) :: fs, vs => ∃ v r, vs = (x, v) :: r ∧ Rp K I d v ∧ Rfs K I fs r
theorem Rfs.mono {K : PySem.W.Frag} {I I' : Hp} (e : Same I I') : ∀ {fs : List (Str × Dt)} {vs : List (Str × V)}, Rfs K I fs vs → Rfs K I' fs vs
  | [], _, h => h
  | (x, d) :: fs, _, ⟨v, r, e1, h1, h2⟩ => ⟨v, r, e1, h1.mono e, Rfs.mono e h2⟩
def CellOk (K : PySem.W.Frag) (I H : Hp) (a : Addr) : Cell → Prop
  | .lst ds => ∃ xs, H a = some (.lst xs) ∧ Rps K I ds xs
  | .ins C fs => ∃ dx vs, H a = some (.ins C dx vs) ∧ Rfs K I fs vs
def Wd (K : PySem.W.Frag) (S : Cells) (H : Hp) : Prop := ∀ a c, S a = some c → CellOk K (wo S H) H a c

section
variable {K : PySem.W.Frag} {S S' : Cells} {H H' : Hp} {p a : Addr} {o : HO} {ds es : List Dt} {xs : List V}
theorem CellOk.some {c : Cell} {I : Hp} (h : CellOk K I H a c) : ∃ o, H a = some o := by
  cases c with
  | lst ds => obtain ⟨xs, h1, _⟩ := h; exact ⟨_, h1⟩
  | ins C fs => obtain ⟨dx, vs, h1, _⟩ := h; exact ⟨_, h1⟩
theorem CellOk.mono {c : Cell} {I I' : Hp} (e : Same I I') (e2 : H' a = H a) (h : CellOk K I H a c) : CellOk K I' H' a c := by
  cases c with
  | lst ds => obtain ⟨xs, h1, h2⟩ := h; exact ⟨xs, e2.trans h1, h2.mono e⟩
  | ins C fs => obtain ⟨dx, vs, h1, h2⟩ := h; exact ⟨dx, vs, e2.trans h1, h2.mono e⟩
theorem Wd.free (w : Wd K S H) (h : H p = none) : S p = none := by
  cases e : S p with
  | none => rfl
  | some c =>
    obtain ⟨o, q⟩ := (w p c e).some
    rw [h] at q
    cases q
/-- a new immutable object -/
theorem new_same (w : Wd K S H) (h : H p = none) : Same (wo S H) (wo S (upd H p o)) := fun a u e => by
  have hS := w.free h
  by_cases ha : a = p
  · subst ha
    rw [wo_none hS, h] at e
    cases e
  · cases q : S a with
    | none => rw [wo_none q] at e ⊢; rw [upd_ne ha]; exact e
    | some c => rw [wo_some q] at e; cases e
theorem new_wd (w : Wd K S H) (h : H p = none) : Wd K S (upd H p o) := fun a c e => by
  have ha : a ≠ p := fun q => by
    rw [q, w.free h] at e
    cases e
  exact (w a c e).mono (new_same w h) (upd_ne ha)
theorem new_at (w : Wd K S H) (h : H p = none) : wo S (upd H p o) p = some o := by
  rw [wo_none (w.free h)]
  exact upd_same
/-- a cell changes, or a new one comes: the immutable part is as it was -/
theorem put_wo (c : Cell) (h : S p ≠ none ∨ H p = none) : wo (S.put p c) (upd H p o) = wo S H := by
  funext a
  by_cases ha : a = p
  · subst ha
    rw [wo_some (Cells.put_same)]
    rcases h with h | h
    · cases e : S a with
      | none => exact absurd e h
      | some c => rw [wo_some e]
    · cases e : S a with
      | none => rw [wo_none e, h]
      | some c => rw [wo_some e]
  · cases e : S a with
    | none => rw [wo_none e, wo_none (by rw [Cells.put_ne ha]; exact e), upd_ne ha]
    | some c => rw [wo_some e, wo_some (by rw [Cells.put_ne ha]; exact e)]
theorem put_wd (w : Wd K S H) {c : Cell} (h : S p ≠ none ∨ H p = none) (hc : CellOk K (wo S H) (upd H p o) p c) : Wd K (S.put p c) (upd H p o) := fun a c' e => by
  rw [put_wo c h]
  by_cases ha : a = p
  · subst ha
    rw [Cells.put_same] at e
    cases e
    exact hc
  · rw [Cells.put_ne ha] at e
    exact (w a c' e).mono (Same.refl _) (upd_ne ha)
/-- a list is changed no more -/
theorem froz_same : Same (wo S H) (wo (S.del p) H) := fun a o e => by
  have ha : S a = none := by
    cases q : S a with
    | none => rfl
    | some c => rw [wo_some q] at e; cases e
  rw [wo_none ha] at e
  have hd : S.del p a = none := by
    unfold Cells.del
    by_cases q : a = p
    · rw [if_pos q]
    · rw [if_neg q]; exact ha
  rw [wo_none hd]
  exact e
theorem froz_wd (w : Wd K S H) : Wd K (S.del p) H := fun a c e => by
  have ha : a ≠ p := fun q => by
    unfold Cells.del at e
    rw [if_pos q] at e
    cases e
  have e' : S a = some c := by
    unfold Cells.del at e
    rw [if_neg ha] at e
    exact e
  exact (w a c e').mono froz_same rfl
theorem froz_at (w : Wd K S H) (h : S p = some (.lst ds)) : Rp K (wo (S.del p) H) (.lst ds) (.ref p) := by
  obtain ⟨xs, h1, h2⟩ := w p _ h
  refine ⟨p, xs, rfl, SqL.of ?_, h2.mono froz_same⟩
  rw [wo_none (if_pos rfl)]
  exact h1
end
end Sc

namespace Sc
open PySem PySem.Spec PyProof.Rows L2
/-! ### judgements over data -/
abbrev Ds := List (Option Dt)
def Rs (K : PySem.W.Frag) (I : Hp) (ds : Ds) (σ : L2.St) : Prop := ds.length = σ.length ∧ ∀ (i : Nat) (d : Dt), ds[i]? = some (some d) → ∃ v, σ[i]? = some (some v) ∧ Rp K I d v
abbrev XK2 := Addr → Ds → Cells → Prop
abbrev QE := Dt → Cells → Prop
abbrev TE2 := XK2 → Ds → Cells → QE → Prop
abbrev TT2 := XK2 → Ds → Cells → (Bool → Cells → Prop) → Prop
abbrev TA2 := XK2 → Ds → Cells → (List Dt → Cells → Prop) → Prop
structure Ends2 where
  nx : Ds → Cells → Prop
  rt : QE
  bk : Ds → Cells → Prop := fun _ _ => False
  ct : Ds → Cells → Prop := fun _ _ => False
abbrev TS2 := XK2 → Ends2 → Ds → Cells → Prop
structure Ends2.Le (D D' : Ends2) : Prop where
  nx : ∀ ds S, D.nx ds S → D'.nx ds S
  rt : ∀ d S, D.rt d S → D'.rt d S
  bk : ∀ ds S, D.bk ds S → D'.bk ds S
  ct : ∀ ds S, D.ct ds S → D'.ct ds S
theorem Ends2.Le.refl (D : Ends2) : D.Le D := ⟨fun _ _ h => h, fun _ _ h => h, fun _ _ h => h, fun _ _ h => h⟩

/-- from one world to the next -/
structure Step (K : PySem.W.Frag) (S : Cells) (H : Hp) (S' : Cells) (H' : Hp) : Prop where
  same : Same (wo S H) (wo S' H')
  wd : Wd K S' H'
theorem Step.trans {K : PySem.W.Frag} {S S1 S2 : Cells} {H H1 H2 : Hp} (a : Step K S H S1 H1) (b : Step K S1 H1 S2 H2) : Step K S H S2 H2 := ⟨a.same.trans b.same, b.wd⟩
def up (K : PySem.W.Frag) (S : Cells) (H : Hp) (Q : VK) : QE := fun d S' => ∀ v H', Step K S H S' H' → Rp K (wo S' H') d v → Q v H'
def upB (K : PySem.W.Frag) (S : Cells) (H : Hp) (Q : Bool → Hp → Prop) : Bool → Cells → Prop := fun b S' => ∀ H', Step K S H S' H' → Q b H'
def upA (K : PySem.W.Frag) (S : Cells) (H : Hp) (Q : List V → Hp → Prop) : List Dt → Cells → Prop := fun d S' => ∀ v H', Step K S H S' H' → Rps K (wo S' H') d v → Q v H'
def upS (K : PySem.W.Frag) (S : Cells) (H : Hp) (Q : L2.St → Hp → Prop) : Ds → Cells → Prop := fun ds S' => ∀ σ' H', Step K S H S' H' → Rs K (wo S' H') ds σ' → Q σ' H'
def upD (K : PySem.W.Frag) (S : Cells) (H : Hp) (D : Ends) : Ends2 := ⟨upS K S H D.nx, up K S H D.rt, upS K S H D.bk, upS K S H D.ct⟩
def upX (K : PySem.W.Frag) (S : Cells) (H : Hp) (W : WX) : XK2 := fun C ds S' => ∀ σ' H', Step K S H S' H' → Rs K (wo S' H') ds σ' → W (.ref C) none σ' H'
/-- where one stands -/
structure Here (K : PySem.W.Frag) (W : WX) (x : XK2) (ds : Ds) (S : Cells) (σ : L2.St) (H : Hp) : Prop where
  rs : Rs K (wo S H) ds σ
  wd : Wd K S H
  xe : ∀ C ds' S', x C ds' S' → upX K S H W C ds' S'
theorem Rs.mono {K : PySem.W.Frag} {I I' : Hp} {ds : Ds} {σ : L2.St} (h : Rs K I ds σ) (e : Same I I') : Rs K I' ds σ := ⟨h.1, fun i d q => by
  obtain ⟨v, h1, h2⟩ := h.2 i d q
  exact ⟨v, h1, h2.mono e⟩⟩
section
variable {K : PySem.W.Frag} {W : WX} {x : XK2} {ds : Ds} {S S' S1 : Cells} {σ : L2.St} {H H' H1 : Hp}
theorem Here.step (h : Here K W x ds S σ H) (s : Step K S H S' H') : Here K W x ds S' σ H' := ⟨h.rs.mono s.same, s.wd, fun C ds' S1 q σ' H1 s1 r => h.xe C ds' S1 q σ' H1 (s.trans s1) r⟩
theorem Here.refl (h : Here K W x ds S σ H) : Step K S H S H := ⟨Same.refl _, h.wd⟩
theorem Rs.set {I : Hp} {i : Nat} {d : Dt} {v : V} (h : Rs K I ds σ) (r : Rp K I d v) : Rs K I (ds.set i (some d)) (σ.set i (some v)) := by
  refine ⟨by rw [List.length_set, List.length_set]; exact h.1, fun j e q => ?_⟩
  by_cases hj : i = j
  · subst hj
    by_cases hl : i < ds.length
    · rw [List.getElem?_set_self hl] at q
      cases q
      exact ⟨v, List.getElem?_set_self (by rw [← h.1]; exact hl), r⟩
    · rw [List.getElem?_eq_none (by rw [List.length_set]; omega)] at q
      cases q
  · rw [List.getElem?_set_ne hj] at q
    obtain ⟨u, h1, h2⟩ := h.2 j e q
    exact ⟨u, by rw [List.getElem?_set_ne hj]; exact h1, h2⟩
theorem Here.set {i : Nat} {d : Dt} {v : V} (h : Here K W x ds S σ H) (r : Rp K (wo S H) d v) : Here K W x (ds.set i (some d)) S (σ.set i (some v)) H := ⟨h.rs.set r, h.wd, h.xe⟩
theorem up.step {Q : VK} {d : Dt} {S2 : Cells} (s : Step K S H S1 H1) (q : up K S H Q d S2) : up K S1 H1 Q d S2 := fun v H' s' r => q v H' (s.trans s') r
theorem upB.step {Q : Bool → Hp → Prop} {d : Bool} {S2 : Cells} (s : Step K S H S1 H1) (q : upB K S H Q d S2) : upB K S1 H1 Q d S2 := fun H' s' => q H' (s.trans s')
theorem upA.step {Q : List V → Hp → Prop} {d : List Dt} {S2 : Cells} (s : Step K S H S1 H1) (q : upA K S H Q d S2) : upA K S1 H1 Q d S2 := fun v H' s' r => q v H' (s.trans s') r
theorem upS.step {Q : L2.St → Hp → Prop} {d : Ds} {S2 : Cells} (s : Step K S H S1 H1) (q : upS K S H Q d S2) : upS K S1 H1 Q d S2 := fun v H' s' r => q v H' (s.trans s') r
theorem upD.step {D : Ends} (s : Step K S H S1 H1) : (upD K S H D).Le (upD K S1 H1 D) := ⟨fun _ _ q => q.step s, fun _ _ q => q.step s, fun _ _ q => q.step s, fun _ _ q => q.step s⟩
end

structure E2 (X : Cx) (W : WX) (e : Expr) (T : TE2) : Prop where
  mono : ∀ x ds S Q Q', (∀ d S', Q d S' → Q' d S') → T x ds S Q → T x ds S Q'
  run : ∃ t, PE X e t ∧ ∀ x ds S σ H Q, Here X.K W x ds S σ H → T x ds S (up X.K S H Q) → t σ H Q
structure T2 (X : Cx) (W : WX) (e : Expr) (T : TT2) : Prop where
  mono : ∀ x ds S Q Q', (∀ d S', Q d S' → Q' d S') → T x ds S Q → T x ds S Q'
  run : ∃ t, PT X e t ∧ ∀ x ds S σ H Q, Here X.K W x ds S σ H → T x ds S (upB X.K S H Q) → t σ H Q
structure W2 (X : Cx) (W : WX) (e : Expr) (T : TT2) : Prop where
  mono : ∀ x ds S Q Q', (∀ d S', Q d S' → Q' d S') → T x ds S Q → T x ds S Q'
  run : ∃ t, PW X e t ∧ ∀ x ds S σ H Q, Here X.K W x ds S σ H → T x ds S (upB X.K S H Q) → t σ H Q
structure A2 (X : Cx) (W : WX) (es : List Expr) (T : TA2) : Prop where
  mono : ∀ x ds S Q Q', (∀ d S', Q d S' → Q' d S') → T x ds S Q → T x ds S Q'
  run : ∃ t, PA X es t ∧ ∀ x ds S σ H Q, Here X.K W x ds S σ H → T x ds S (upA X.K S H Q) → t σ H Q
structure S2 (X : Cx) (W : WX) (st : Stmt) (T : TS2) : Prop where
  mono : ∀ x ds S D D', Ends2.Le D D' → T x D ds S → T x D' ds S
  run : ∃ t, PS X st t ∧ ∀ x ds S σ H D, Here X.K W x ds S σ H → T x (upD X.K S H D) ds S → t D σ H
structure B2 (X : Cx) (W : WX) (st : List Stmt) (T : TS2) : Prop where
  mono : ∀ x ds S D D', Ends2.Le D D' → T x D ds S → T x D' ds S
  run : ∃ t, PSs X st t ∧ ∀ x ds S σ H D, Here X.K W x ds S σ H → T x (upD X.K S H D) ds S → t D σ H
theorem W2.t {X : Cx} {W : WX} {e : Expr} {T : TT2} (h : W2 X W e T) : T2 X W e T := ⟨h.mono, by
  obtain ⟨t, h1, h2⟩ := h.run
  exact ⟨t, h1.pt, h2⟩⟩

section
variable {X : Cx} {W : WX} {a b c e : Expr} {es : List Expr} {Ta Tb Tc Te : TE2} {Tt Tu : TT2} {TA : TA2} {pos : Pos}
/-! ### names, constants -/
def dVar (i : Nat) : TE2 := fun _ ds S Q => ∃ d, ds[i]? = some (some d) ∧ Q d S
def dC (d : Dt) : TE2 := fun _ _ S Q => Q d S
theorem ev (i : Nat) {x : Str} {pos : Pos} (hN : X.N[i]? = some x := by rfl) (hv : Vis X.env.scope x := by first | exact Or.inl rfl | exact Or.inr (Or.inl rfl) | exact Or.inr (Or.inr rfl)) (hd : (x == ("__debug__" : Str)) = false := by decide)
    (hcd : (x == ("__classdict__" : Str)) = false := by decide) : E2 X W (.Name x pos) (dVar i) := ⟨fun _ _ _ _ _ h ⟨d, e, q⟩ => ⟨d, e, h _ _ q⟩, _, pe_var hN hv hd hcd, fun x ds S σ H Q h ⟨d, e, q⟩ => by
  obtain ⟨v, h1, h2⟩ := h.rs.2 i d e
  exact ⟨v, h1, q v H h.refl h2⟩⟩
theorem e_int {i j pos} : E2 X W (.Constant (.int i) j pos) (dC (.int i)) := ⟨fun _ _ _ _ _ h q => h _ _ q, _, pe_int, fun x ds S σ H Q h q => q _ H h.refl rfl⟩
theorem e_bl {b j pos} : E2 X W (.Constant (.bool b) j pos) (dC (.bl b)) := ⟨fun _ _ _ _ _ h q => h _ _ q, _, pe_bl, fun x ds S σ H Q h q => q _ H h.refl rfl⟩
theorem e_non {j pos} : E2 X W (.Constant .none j pos) (dC .non) := ⟨fun _ _ _ _ _ h q => h _ _ q, _, pe_non, fun x ds S σ H Q h q => q _ H h.refl rfl⟩
theorem e_str {z j pos} : E2 X W (.Constant (.str z) j pos) (dC (.str z)) := ⟨fun _ _ _ _ _ h q => h _ _ q, _, pe_str, fun x ds S σ H Q h q => q _ H h.refl rfl⟩
theorem e_globI {x : Str} {i : Int} {pos : Pos} (hm : ∃ t, X.mg x = some (.int i t)) (hg : Gl X x := by rfl) (hd : (x == ("__debug__" : Str)) = false := by decide) : E2 X W (.Name x pos) (dC (.int i)) := ⟨fun _ _ _ _ _ h q => h _ _ q, by
  obtain ⟨t, hm⟩ := hm
  exact ⟨_, pe_glob (v := .int i) hg hm ⟨t, rfl⟩ hd, fun x ds S σ H Q h q => q _ H h.refl rfl⟩⟩
/-- a def or class of the module as a value -/
theorem e_globR {x : Str} {f : Addr} {pos : Pos} (hm : X.mg x = some (.ref f)) (hg : Gl X x := by rfl) (hd : (x == ("__debug__" : Str)) = false := by decide) : E2 X W (.Name x pos) (dC (.ref f)) := ⟨fun _ _ _ _ _ h q => h _ _ q,
  _, pe_glob (v := .ref f) hg hm rfl hd, fun x ds S σ H Q h q => q _ H h.refl rfl⟩

/-! ### operations on values -/
abbrev QO := Dt → Dt → Cells → QE → Prop
/-- a two-place operation -/
structure O2 (X : Cx) (f : Value → Value → Sem Value) (q : QO) : Prop where
  mono : ∀ d e S Q Q', (∀ d S', Q d S' → Q' d S') → q d e S Q → q d e S Q'
  run : ∃ r, OpR X f r ∧ ∀ d e v u S H Q, Wd X.K S H → Rp X.K (wo S H) d v → Rp X.K (wo S H) e u → q d e S (up X.K S H Q) → r v u H Q
def dOp (q : QO) (Ta Tb : TE2) : TE2 := fun x ds S Q => Ta x ds S fun d S1 => Tb x ds S1 fun e S2 => q d e S2 Q
theorem dOp.mono {q : QO} (hq : ∀ d e S Q Q', (∀ d S', Q d S' → Q' d S') → q d e S Q → q d e S Q') (ha : E2 X W a Ta) (hb : E2 X W b Tb) : ∀ x ds S Q Q', (∀ d S', Q d S' → Q' d S') → dOp q Ta Tb x ds S Q → dOp q Ta Tb x ds S Q' :=
  fun x ds S Q Q' h p => ha.mono x ds S _ _ (fun d S1 p1 => hb.mono x ds S1 _ _ (fun e S2 p2 => hq d e S2 Q Q' h p2) p1) p
theorem dOp.run {q : QO} {r : R2} {ta tb : TE} (hq : ∀ d e v u S H Q, Wd X.K S H → Rp X.K (wo S H) d v → Rp X.K (wo S H) e u → q d e S (up X.K S H Q) → r v u H Q) (qm : ∀ d e S Q Q', (∀ d S', Q d S' → Q' d S') → q d e S Q → q d e S Q')
    (ma : ∀ x ds S Q Q', (∀ d S', Q d S' → Q' d S') → Ta x ds S Q → Ta x ds S Q') (mb : ∀ x ds S Q Q', (∀ d S', Q d S' → Q' d S') → Tb x ds S Q → Tb x ds S Q')
    (ha : ∀ x ds S σ H Q, Here X.K W x ds S σ H → Ta x ds S (up X.K S H Q) → ta σ H Q) (hb : ∀ x ds S σ H Q, Here X.K W x ds S σ H → Tb x ds S (up X.K S H Q) → tb σ H Q) :
    ∀ x ds S σ H Q, Here X.K W x ds S σ H → dOp q Ta Tb x ds S (up X.K S H Q) → tOp r ta tb σ H Q := fun x ds S σ H Q h p => by
  refine ha x ds S σ H _ h (ma x ds S _ _ (fun d S1 p1 v H1 s1 r1 => ?_) p)
  refine hb x ds S1 σ H1 _ (h.step s1) (mb x ds S1 _ _ (fun e S2 p2 u H2 s2 r2 => ?_) p1)
  exact hq d e v u S2 H2 Q s2.wd (r1.mono s2.same) r2 (qm d e S2 _ _ (fun z S3 q3 => q3.step (s1.trans s2)) p2)
theorem e_op {op : Operator} {q : QO} (ho : O2 X (binaryOp op) q) (ha : E2 X W a Ta) (hb : E2 X W b Tb) : E2 X W (.BinOp a op b pos) (dOp q Ta Tb) := ⟨dOp.mono ho.mono ha hb, by
  obtain ⟨ta, pa, ra⟩ := ha.run
  obtain ⟨tb, pb, rb⟩ := hb.run
  obtain ⟨r, po, rr⟩ := ho.run
  exact ⟨_, pe_op po pa pb, dOp.run rr ho.mono ha.mono hb.mono ra rb⟩⟩
theorem e_cmp {op : CmpOp} {q : QO} (ho : O2 X (compareOp op) q) (ha : E2 X W a Ta) (hb : E2 X W b Tb) (hm : behindInMarks op b = false := by first | exact nomark _ | rfl | with_unfolding_all rfl) : E2 X W (.Compare a [op] [b] pos) (dOp q Ta Tb) := ⟨dOp.mono ho.mono ha hb, by
  obtain ⟨ta, pa, ra⟩ := ha.run
  obtain ⟨tb, pb, rb⟩ := hb.run
  obtain ⟨r, po, rr⟩ := ho.run
  exact ⟨_, pe_cmpR po pa pb hm, dOp.run rr ho.mono ha.mono hb.mono ra rb⟩⟩
/-- an expression's value as a test -/
def dTest (T : TE2) : TT2 := fun x ds S Q => T x ds S fun d S1 => ∃ k, d = .bl k ∧ Q k S1
theorem dTest.mono {T : TE2} (h : ∀ x ds S Q Q', (∀ d S', Q d S' → Q' d S') → T x ds S Q → T x ds S Q') : ∀ x ds S Q Q', (∀ d S', Q d S' → Q' d S') → dTest T x ds S Q → dTest T x ds S Q' :=
  fun x ds S Q Q' hq p => h x ds S _ _ (fun d S1 ⟨k, e, q⟩ => ⟨k, e, hq _ _ q⟩) p
theorem dTest.run {T : TE2} {t : TE} (hm : ∀ x ds S Q Q', (∀ d S', Q d S' → Q' d S') → T x ds S Q → T x ds S Q') (h : ∀ x ds S σ H Q, Here X.K W x ds S σ H → T x ds S (up X.K S H Q) → t σ H Q) :
    ∀ x ds S σ H Q, Here X.K W x ds S σ H → dTest T x ds S (upB X.K S H Q) → tTest t σ H Q := fun x ds S σ H Q hh p =>
  h x ds S σ H _ hh (hm x ds S _ _ (fun d S1 ⟨k, e, q⟩ v H1 s r => by
    subst e
    exact ⟨k, r, q H1 s⟩) p)
theorem t_cmp {op : CmpOp} {q : QO} (ho : O2 X (compareOp op) q) (ha : E2 X W a Ta) (hb : E2 X W b Tb) (hm : behindInMarks op b = false := by first | exact nomark _ | rfl | with_unfolding_all rfl) : T2 X W (.Compare a [op] [b] pos) (dTest (dOp q Ta Tb)) := ⟨dTest.mono (dOp.mono ho.mono ha hb), by
  obtain ⟨ta, pa, ra⟩ := ha.run
  obtain ⟨tb, pb, rb⟩ := hb.run
  obtain ⟨r, po, rr⟩ := ho.run
  exact ⟨_, pt_cmpR po pa pb hm, dTest.run (dOp.mono ho.mono ha hb) (dOp.run rr ho.mono ha.mono hb.mono ra rb)⟩⟩
theorem t_val (he : E2 X W e Te) (hs : ∀ whole, isTrue e X.env whole = (do let v ← whole; standAt e.pos; holding [v] (truthy v)) := by intro _; rfl) : T2 X W e (dTest Te) := ⟨dTest.mono he.mono, by
  obtain ⟨t, p, r⟩ := he.run
  exact ⟨_, pt_val p hs, dTest.run he.mono r⟩⟩
/-! a chain of comparisons -/
def dChain (q q' : QO) (Ta Tb Tc : TE2) : TE2 := fun x ds S Q => Ta x ds S fun d S1 => Tb x ds S1 fun e S2 => q d e S2 fun z S3 => ∃ k, z = .bl k ∧ if k = true then Tc x ds S3 fun f S4 => q' e f S4 Q else Q (.bl false) S3
theorem ite_mono {c : Prop} [Decidable c] {A B A' B' : Prop} (h : if c then A else B) (ha : A → A') (hb : B → B') : if c then A' else B' := by
  by_cases q : c
  · rw [if_pos q] at h ⊢
    exact ha h
  · rw [if_neg q] at h ⊢
    exact hb h
theorem e_chain {op op' : CmpOp} {q q' : QO} (ho : O2 X (compareOp op) q) (ho' : O2 X (compareOp op') q') (ha : E2 X W a Ta) (hb : E2 X W b Tb) (hc : E2 X W c Tc)
    (hm : lastMarks [op, op'] [b, c] = false := by with_unfolding_all rfl) : E2 X W (.Compare a [op, op'] [b, c] pos) (dChain q q' Ta Tb Tc) := by
  have mono : ∀ x ds S Q Q', (∀ d S', Q d S' → Q' d S') → dChain q q' Ta Tb Tc x ds S Q → dChain q q' Ta Tb Tc x ds S Q' := fun x ds S Q Q' h p =>
    ha.mono x ds S _ _ (fun d S1 p1 => hb.mono x ds S1 _ _ (fun e S2 p2 => ho.mono d e S2 _ _ (fun z S3 ⟨k, e1, p3⟩ => ⟨k, e1, ite_mono p3 (fun p3 => hc.mono x ds S3 _ _ (fun f S4 p4 => ho'.mono e f S4 Q Q' h p4) p3) (fun p3 => h _ _ p3)⟩) p2) p1) p
  refine ⟨mono, ?_⟩
  obtain ⟨ta, pa, ra⟩ := ha.run
  obtain ⟨tb, pb, rb⟩ := hb.run
  obtain ⟨tc, pc, rc⟩ := hc.run
  obtain ⟨r, po, rr⟩ := ho.run
  obtain ⟨r', po', rr'⟩ := ho'.run
  refine ⟨_, pe_chain po po' pa pb pc hm, fun x ds S σ H Q h p => ?_⟩
  refine ra x ds S σ H _ h (ha.mono x ds S _ _ (fun d S1 p1 v H1 s1 r1 => ?_) p)
  refine rb x ds S1 σ H1 _ (h.step s1) (hb.mono x ds S1 _ _ (fun e S2 p2 u H2 s2 r2 => ?_) p1)
  refine rr d e v u S2 H2 _ s2.wd (r1.mono s2.same) r2 (ho.mono d e S2 _ _ (fun z S3 ⟨k, e1, p3⟩ z' H3 s3 r3 => ?_) p2)
  subst e1
  refine ⟨k, r3, ?_⟩
  have s123 := s1.trans (s2.trans s3)
  refine ite_mono p3 (fun p3 => ?_) (fun p3 => p3 _ _ s123 rfl)
  refine rc x ds S3 σ H3 _ (h.step s123) (hc.mono x ds S3 _ _ (fun f S4 p4 w' H4 s4 r4 => ?_) p3)
  exact rr' e f u w' S4 H4 Q s4.wd (r2.mono (s3.trans s4).same) r4 (ho'.mono e f S4 _ _ (fun z S5 q5 => q5.step (s123.trans s4)) p4)
theorem t_chain {op op' : CmpOp} {q q' : QO} (ho : O2 X (compareOp op) q) (ho' : O2 X (compareOp op') q') (ha : E2 X W a Ta) (hb : E2 X W b Tb) (hc : E2 X W c Tc)
    (hm : lastMarks [op, op'] [b, c] = false := by with_unfolding_all rfl) : T2 X W (.Compare a [op, op'] [b, c] pos) (dTest (dChain q q' Ta Tb Tc)) := by
  have h0 := e_chain (pos := pos) ho ho' ha hb hc hm
  refine ⟨dTest.mono h0.mono, ?_⟩
  obtain ⟨ta, pa, ra⟩ := ha.run
  obtain ⟨tb, pb, rb⟩ := hb.run
  obtain ⟨tc, pc, rc⟩ := hc.run
  obtain ⟨r, po, rr⟩ := ho.run
  obtain ⟨r', po', rr'⟩ := ho'.run
  refine ⟨_, pt_chain po po' pa pb pc hm, dTest.run h0.mono fun x ds S σ H Q h p => ?_⟩
  refine ra x ds S σ H _ h (ha.mono x ds S _ _ (fun d S1 p1 v H1 s1 r1 => ?_) p)
  refine rb x ds S1 σ H1 _ (h.step s1) (hb.mono x ds S1 _ _ (fun e S2 p2 u H2 s2 r2 => ?_) p1)
  refine rr d e v u S2 H2 _ s2.wd (r1.mono s2.same) r2 (ho.mono d e S2 _ _ (fun z S3 ⟨k, e1, p3⟩ z' H3 s3 r3 => ?_) p2)
  subst e1
  refine ⟨k, r3, ?_⟩
  have s123 := s1.trans (s2.trans s3)
  refine ite_mono p3 (fun p3 => ?_) (fun p3 => p3 _ _ s123 rfl)
  refine rc x ds S3 σ H3 _ (h.step s123) (hc.mono x ds S3 _ _ (fun f S4 p4 w' H4 s4 r4 => ?_) p3)
  exact rr' e f u w' S4 H4 Q s4.wd (r2.mono (s3.trans s4).same) r4 (ho'.mono e f S4 _ _ (fun z S5 q5 => q5.step (s123.trans s4)) p4)

/-! ### and, or, not, if -/
variable {rest : List Expr}
def dAnd (T U : TT2) : TT2 := fun x ds S Q => T x ds S fun k S1 => if k = true then U x ds S1 Q else Q false S1
def dOr (T U : TT2) : TT2 := fun x ds S Q => T x ds S fun k S1 => if k = true then Q true S1 else U x ds S1 Q
def dNot (T : TT2) : TT2 := fun x ds S Q => T x ds S fun k S1 => Q (!k) S1
theorem w_and1 (h : T2 X W a Tt) : W2 X W (.BoolOp .And [a] pos) Tt := ⟨h.mono, by
  obtain ⟨t, p, r⟩ := h.run
  exact ⟨t, pw_and1 p, r⟩⟩
theorem w_or1 (h : T2 X W a Tt) : W2 X W (.BoolOp .Or [a] pos) Tt := ⟨h.mono, by
  obtain ⟨t, p, r⟩ := h.run
  exact ⟨t, pw_or1 p, r⟩⟩
theorem w_and (ha : T2 X W a Tt) (hb : W2 X W (.BoolOp .And (b :: rest) pos) Tu) : W2 X W (.BoolOp .And (a :: b :: rest) pos) (dAnd Tt Tu) := ⟨fun x ds S Q Q' h p =>
    ha.mono x ds S _ _ (fun k S1 p1 => ite_mono p1 (fun p1 => hb.mono x ds S1 _ _ h p1) (fun p1 => h _ _ p1)) p, by
  obtain ⟨t, p, r⟩ := ha.run
  obtain ⟨u, p', r'⟩ := hb.run
  refine ⟨_, pw_and p p', fun x ds S σ H Q h q => ?_⟩
  refine r x ds S σ H _ h (ha.mono x ds S _ _ (fun k S1 p1 H1 s1 => ?_) q)
  exact ite_mono p1 (fun p1 => r' x ds S1 σ H1 _ (h.step s1) (hb.mono x ds S1 _ _ (fun b S2 q2 => q2.step s1) p1)) (fun p1 => p1 _ s1)⟩
theorem w_or (ha : T2 X W a Tt) (hb : W2 X W (.BoolOp .Or (b :: rest) pos) Tu) : W2 X W (.BoolOp .Or (a :: b :: rest) pos) (dOr Tt Tu) := ⟨fun x ds S Q Q' h p =>
    ha.mono x ds S _ _ (fun k S1 p1 => ite_mono p1 (fun p1 => h _ _ p1) (fun p1 => hb.mono x ds S1 _ _ h p1)) p, by
  obtain ⟨t, p, r⟩ := ha.run
  obtain ⟨u, p', r'⟩ := hb.run
  refine ⟨_, pw_or p p', fun x ds S σ H Q h q => ?_⟩
  refine r x ds S σ H _ h (ha.mono x ds S _ _ (fun k S1 p1 H1 s1 => ?_) q)
  exact ite_mono p1 (fun p1 => p1 _ s1) (fun p1 => r' x ds S1 σ H1 _ (h.step s1) (hb.mono x ds S1 _ _ (fun b S2 q2 => q2.step s1) p1))⟩
theorem t_not (ha : T2 X W a Tt) : T2 X W (.UnaryOp .Not a pos) (dNot Tt) := ⟨fun x ds S Q Q' h p => ha.mono x ds S _ _ (fun k S1 p1 => h _ _ p1) p, by
  obtain ⟨t, p, r⟩ := ha.run
  exact ⟨_, pt_not p, fun x ds S σ H Q h q => r x ds S σ H _ h (ha.mono x ds S _ _ (fun k S1 p1 H1 s1 => p1 _ s1) q)⟩⟩
def dAndV (Ta Tb : TE2) : TE2 := fun x ds S Q => Ta x ds S fun d S1 => ∃ k, d = .bl k ∧ if k = true then Tb x ds S1 Q else Q (.bl false) S1
def dOrV (Ta Tb : TE2) : TE2 := fun x ds S Q => Ta x ds S fun d S1 => ∃ k, d = .bl k ∧ if k = true then Q (.bl true) S1 else Tb x ds S1 Q
def dNotV (Ta : TE2) : TE2 := fun x ds S Q => Ta x ds S fun d S1 => ∃ k, d = .bl k ∧ Q (.bl (!k)) S1
theorem e_one {op} (h : E2 X W a Ta) : E2 X W (.BoolOp op [a] pos) Ta := ⟨h.mono, by
  obtain ⟨t, p, r⟩ := h.run
  exact ⟨t, pe_one p, r⟩⟩
theorem e_and (ha : E2 X W a Ta) (hb : E2 X W (.BoolOp .And (b :: rest) pos) Tb) : E2 X W (.BoolOp .And (a :: b :: rest) pos) (dAndV Ta Tb) := ⟨fun x ds S Q Q' h p =>
    ha.mono x ds S _ _ (fun d S1 ⟨k, e, p1⟩ => ⟨k, e, ite_mono p1 (fun p1 => hb.mono x ds S1 _ _ h p1) (fun p1 => h _ _ p1)⟩) p, by
  obtain ⟨t, p, r⟩ := ha.run
  obtain ⟨u, p', r'⟩ := hb.run
  refine ⟨_, pe_and p p', fun x ds S σ H Q h q => ?_⟩
  refine r x ds S σ H _ h (ha.mono x ds S _ _ (fun d S1 ⟨k, e, p1⟩ v H1 s1 r1 => ?_) q)
  subst e
  exact ⟨k, r1, ite_mono p1 (fun p1 => r' x ds S1 σ H1 _ (h.step s1) (hb.mono x ds S1 _ _ (fun b S2 q2 => q2.step s1) p1)) (fun p1 => p1 _ _ s1 rfl)⟩⟩
theorem e_or (ha : E2 X W a Ta) (hb : E2 X W (.BoolOp .Or (b :: rest) pos) Tb) : E2 X W (.BoolOp .Or (a :: b :: rest) pos) (dOrV Ta Tb) := ⟨fun x ds S Q Q' h p =>
    ha.mono x ds S _ _ (fun d S1 ⟨k, e, p1⟩ => ⟨k, e, ite_mono p1 (fun p1 => h _ _ p1) (fun p1 => hb.mono x ds S1 _ _ h p1)⟩) p, by
  obtain ⟨t, p, r⟩ := ha.run
  obtain ⟨u, p', r'⟩ := hb.run
  refine ⟨_, pe_or p p', fun x ds S σ H Q h q => ?_⟩
  refine r x ds S σ H _ h (ha.mono x ds S _ _ (fun d S1 ⟨k, e, p1⟩ v H1 s1 r1 => ?_) q)
  subst e
  exact ⟨k, r1, ite_mono p1 (fun p1 => p1 _ _ s1 rfl) (fun p1 => r' x ds S1 σ H1 _ (h.step s1) (hb.mono x ds S1 _ _ (fun b S2 q2 => q2.step s1) p1))⟩⟩
theorem e_not (ha : E2 X W a Ta) : E2 X W (.UnaryOp .Not a pos) (dNotV Ta) := ⟨fun x ds S Q Q' h p => ha.mono x ds S _ _ (fun d S1 ⟨k, e, p1⟩ => ⟨k, e, h _ _ p1⟩) p, by
  obtain ⟨t, p, r⟩ := ha.run
  refine ⟨_, pe_not p, fun x ds S σ H Q h q => r x ds S σ H _ h (ha.mono x ds S _ _ (fun d S1 ⟨k, e, p1⟩ v H1 s1 r1 => ?_) q)⟩
  subst e
  exact ⟨k, r1, p1 _ _ s1 rfl⟩⟩
def dIf (T : TT2) (Ta Tb : TE2) : TE2 := fun x ds S Q => T x ds S fun k S1 => if k = true then Ta x ds S1 Q else Tb x ds S1 Q
theorem e_if (hc : T2 X W c Tt) (ha : E2 X W a Ta) (hb : E2 X W b Tb) : E2 X W (.IfExp c a b pos) (dIf Tt Ta Tb) := ⟨fun x ds S Q Q' h p =>
    hc.mono x ds S _ _ (fun k S1 p1 => ite_mono p1 (fun p1 => ha.mono x ds S1 _ _ h p1) (fun p1 => hb.mono x ds S1 _ _ h p1)) p, by
  obtain ⟨tc, pc, rc⟩ := hc.run
  obtain ⟨ta, pa, ra⟩ := ha.run
  obtain ⟨tb, pb, rb⟩ := hb.run
  refine ⟨_, pe_ifExp pc pa pb, fun x ds S σ H Q h q => ?_⟩
  refine rc x ds S σ H _ h (hc.mono x ds S _ _ (fun k S1 p1 H1 s1 => ?_) q)
  exact ite_mono p1 (fun p1 => ra x ds S1 σ H1 _ (h.step s1) (ha.mono x ds S1 _ _ (fun b S2 q2 => q2.step s1) p1)) (fun p1 => rb x ds S1 σ H1 _ (h.step s1) (hb.mono x ds S1 _ _ (fun b S2 q2 => q2.step s1) p1))⟩

/-! ### argument lists, displays -/
def dNil : TA2 := fun _ _ S Q => Q [] S
def dCons (T : TE2) (U : TA2) : TA2 := fun x ds S Q => T x ds S fun d S1 => U x ds S1 fun es S2 => Q (d :: es) S2
theorem a_nil : A2 X W [] dNil := ⟨fun _ _ _ _ _ h q => h _ _ q, _, pa_nil, fun x ds S σ H Q h q => q _ H h.refl rfl⟩
theorem a_cons (ha : E2 X W e Te) (hr : A2 X W es TA) (hs : starEach (e :: es) X.env = (false, eval e X.env) :: starEach es X.env := by rfl) : A2 X W (e :: es) (dCons Te TA) := ⟨fun x ds S Q Q' h p =>
    ha.mono x ds S _ _ (fun d S1 p1 => hr.mono x ds S1 _ _ (fun fs S2 p2 => h _ _ p2) p1) p, by
  obtain ⟨t, p, r⟩ := ha.run
  obtain ⟨u, p', r'⟩ := hr.run
  refine ⟨_, pa_cons p p' hs, fun x ds S σ H Q h q => ?_⟩
  refine r x ds S σ H _ h (ha.mono x ds S _ _ (fun d S1 p1 v H1 s1 r1 => ?_) q)
  refine r' x ds S1 σ H1 _ (h.step s1) (hr.mono x ds S1 _ _ (fun fs S2 p2 vs H2 s2 r2 => ?_) p1)
  exact p2 (v :: vs) H2 (s1.trans s2) ⟨v, vs, rfl, r1.mono s2.same, r2⟩⟩
theorem size_le {n : Nat} (h : n ≤ 100000) : n ≤ sizeLine := Nat.le_trans h (by decide)
/-- a new list: of data, or one that may change -/
def newL (ds : List Dt) (S : Cells) (Q : QE) : Prop := Q (.lst ds) S ∨ ∀ p, S p = none → Q (.ref p) (S.put p (.lst ds))
theorem newL.mono {ds : List Dt} {S : Cells} {Q Q' : QE} (h : ∀ d S', Q d S' → Q' d S') (q : newL ds S Q) : newL ds S Q' := q.imp (fun q => h _ _ q) (fun q p hp => h _ _ (q p hp))
theorem newL.run {K : PySem.W.Frag} {S S1 : Cells} {H H1 : Hp} {Q : VK} {ds : List Dt} {vs : List V} (s1 : Step K S H S1 H1) (r : Rps K (wo S1 H1) ds vs) (q : newL ds S1 (up K S H Q)) {p : Addr} (hp : H1 p = none) : Q (.ref p) (upd H1 p (.lst vs)) := by
  rcases q with q | q
  · exact q _ _ (s1.trans ⟨new_same s1.wd hp, new_wd s1.wd hp⟩) ⟨p, vs, rfl, SqL.of (new_at s1.wd hp), r.mono (new_same s1.wd hp)⟩
  · have w := put_wo (S := S1) (H := H1) (p := p) (o := .lst vs) (.lst ds) (.inr hp)
    refine q p (s1.wd.free hp) _ _ (s1.trans ⟨?_, put_wd s1.wd (.inr hp) ⟨vs, upd_same, r⟩⟩) rfl
    rw [w]
    exact Same.refl _
theorem newT.run {K : PySem.W.Frag} {S S1 : Cells} {H H1 : Hp} {Q : VK} {ds : List Dt} {vs : List V} (s1 : Step K S H S1 H1) (r : Rps K (wo S1 H1) ds vs) (q : up K S H Q (.tup ds) S1) {p : Addr} (hp : H1 p = none) : Q (.ref p) (upd H1 p (.tup vs)) :=
  q _ _ (s1.trans ⟨new_same s1.wd hp, new_wd s1.wd hp⟩) ⟨p, vs, rfl, SqT.of (new_at s1.wd hp), r.mono (new_same s1.wd hp)⟩
def dTup (T : TA2) : TE2 := fun x ds S Q => T x ds S fun es S1 => es.length ≤ 100000 ∧ Q (.tup es) S1
def dLst (T : TA2) : TE2 := fun x ds S Q => T x ds S fun es S1 => es.length ≤ 100000 ∧ newL es S1 Q
theorem e_tup {x1} (h : A2 X W es TA) : E2 X W (.Tuple es x1 pos) (dTup TA) := ⟨fun x ds S Q Q' hq p => h.mono x ds S _ _ (fun d S1 p1 => ⟨p1.1, hq _ _ p1.2⟩) p, by
  obtain ⟨t, p, r⟩ := h.run
  refine ⟨_, pe_tup p, fun x ds S σ H Q hh q => r x ds S σ H _ hh (h.mono x ds S _ _ (fun d S1 p1 vs H1 s1 r1 => ⟨?_, fun p hp => newT.run s1 r1 p1.2 hp⟩) q)⟩
  rw [r1.length]
  exact size_le p1.1⟩
theorem e_lst (h : A2 X W es TA) : E2 X W (.List es pos) (dLst TA) := ⟨fun x ds S Q Q' hq p => h.mono x ds S _ _ (fun d S1 p1 => ⟨p1.1, newL.mono hq p1.2⟩) p, by
  obtain ⟨t, p, r⟩ := h.run
  refine ⟨_, pe_lst p, fun x ds S σ H Q hh q => r x ds S σ H _ hh (h.mono x ds S _ _ (fun d S1 p1 vs H1 s1 r1 => ⟨?_, fun p hp => newL.run s1 r1 p1.2 hp⟩) q)⟩
  rw [r1.length]
  exact size_le p1.1⟩

/-! ### calls -/
abbrev Sp2 := List Dt → Cells → QE → (Addr → Cells → Prop) → Prop
def lift (K : PySem.W.Frag) (sp : Sp2) : Sp := fun vs H Q E => ∃ S ds, Wd K S H ∧ Rps K (wo S H) ds vs ∧ sp ds S (up K S H Q) fun C S' => ∀ H', Step K S H S' H' → E (.ref C) none H'
structure Sp2.Mono (sp : Sp2) : Prop where
  q : ∀ ds S Q Q' E E', (∀ d S', Q d S' → Q' d S') → (∀ C S', E C S' → E' C S') → sp ds S Q E → sp ds S Q' E'
/-- the def at x keeps the promise sp -/
def Has (P : Program) (w : World) (K : PySem.W.Frag) (mg : Str → Option Value) (base : Heap) (k : Nat) (x : Str) (ps : List Str) (sp : Sp2) : Prop :=
  sp.Mono ∧ ∃ (f : Addr) (fd : FuncData), mg x = some (.ref f) ∧ PySem.W.keepIn K (.ref f) = true ∧ Binds K fd ps [] ∧ FnOk P w K mg base (L2.CX P w) k f fd ps (lift K sp)
def dCall (sp : Sp2) (T : TA2) : TE2 := fun x ds S Q => T x ds S fun vs S1 => sp vs S1 Q fun C S' => x C ds S'
theorem dCall.mono {sp : Sp2} (m : sp.Mono) (h : A2 X W es TA) : ∀ x ds S Q Q', (∀ d S', Q d S' → Q' d S') → dCall sp TA x ds S Q → dCall sp TA x ds S Q' :=
  fun x ds S Q Q' hq p => h.mono x ds S _ _ (fun d S1 p1 => m.q _ _ _ _ _ _ hq (fun _ _ z => z) p1) p
theorem e_call {k : Nat} {x : Str} {ps : List Str} {sp : Sp2} {p : Pos} (F : Has X.prog X.w X.K X.mg X.base k x ps sp) (hr : Room k X.A) (tk : Takes X W) (ha : A2 X W (e :: es) TA) (hg : Gl X x := by rfl)
    (hdb : (x == ("__debug__" : Str)) = false := by decide) (he : starEach (e :: es) X.env = (false, eval e X.env) :: starEach es X.env := by rfl) (hpl : (backTo pos (starEach es X.env)).any (·.1) = false := by rfl) :
    E2 X W (.Call (.Name x p) (e :: es) [] pos) (dCall sp TA) := by
  obtain ⟨m, f, fd, hm, kp, b, F⟩ := F
  refine ⟨dCall.mono m ha, ?_⟩
  obtain ⟨t, pt, r⟩ := ha.run
  refine ⟨_, pe_callS (E := WE W) F hr hg hm kp b (fun σ => passAt tk σ) pt hdb he hpl, fun x ds S σ H Q h q => ?_⟩
  refine r x ds S σ H _ h (ha.mono x ds S _ _ (fun d S1 p1 vs H1 s1 r1 => ?_) q)
  refine ⟨S1, d, s1.wd, r1, m.q _ _ _ _ _ _ (fun z S2 q2 => q2.step s1) (fun C S2 q2 H2 s2 => ?_) p1⟩
  exact (h.step s1).xe C ds S2 q2 σ H2 s2 ((h.step s1).rs.mono s2.same)
theorem pe_callS0 {k : Nat} {f : Addr} {fd : FuncData} {ps : List Str} {sp : Sp} {E : L2.St → XK} {x : Str} {p : Pos} {CX : CXT} (F : FnOk X.prog X.w X.K X.mg X.base CX k f fd ps sp) (hr : Room k X.A) (hg : Gl X x) (hm : X.mg x = some (.ref f)) (hk : PySem.W.keepIn X.K (.ref f) = true) (hb : Binds X.K fd ps []) (hx : ∀ σ, PassesAt CX X σ (E σ))
    (hdb : (x == ("__debug__" : Str)) = false := by decide) : PE X (.Call (.Name x p) [] [] pos) (tCallS sp E tNil) := by
  refine ⟨fun pins s σ H Q I h => ?_⟩
  refine wpAny_Call_Name_kw (ld_glob I hg hm ?_ hdb)
  exact PySem.W.callWith_K0 I.kIn hk (run_fnS (us := []) F hr hb (hx σ) I .nil h)
theorem e_call0 {k : Nat} {x : Str} {ps : List Str} {sp : Sp2} {p : Pos} (F : Has X.prog X.w X.K X.mg X.base k x ps sp) (hr : Room k X.A) (tk : Takes X W) (hg : Gl X x := by rfl)
    (hdb : (x == ("__debug__" : Str)) = false := by decide) : E2 X W (.Call (.Name x p) [] [] pos) (dCall sp dNil) := by
  obtain ⟨m, f, fd, hm, kp, b, F⟩ := F
  refine ⟨dCall.mono m (a_nil (X := X) (W := W)), ?_⟩
  refine ⟨_, pe_callS0 (E := WE W) F hr hg hm kp b (fun σ => passAt tk σ) hdb, fun x ds S σ H Q h q => ?_⟩
  refine ⟨S, [], h.wd, rfl, m.q _ _ _ _ _ _ (fun z S2 q2 => q2) (fun C S2 q2 H2 s2 => ?_) q⟩
  exact h.xe C ds S2 q2 σ H2 s2 (h.rs.mono s2.same)
/-- a built-in, by the values of its arguments -/
abbrev QC := List Dt → Cells → QE → Prop
structure C2 (X : Cx) (f : Value) (q : QC) : Prop where
  mono : ∀ ds S Q Q', (∀ d S', Q d S' → Q' d S') → q ds S Q → q ds S Q'
  run : ∃ r, CallR X f r ∧ ∀ ds vs S H Q, Wd X.K S H → Rps X.K (wo S H) ds vs → q ds S (up X.K S H Q) → r vs H Q
def dCB (q : QC) (T : TA2) : TE2 := fun x ds S Q => T x ds S fun vs S1 => q vs S1 Q
theorem e_callB {x : Str} {id : String} {q : QC} {p : Pos} (hc : C2 X (.builtin id) q) (hm : X.mg x = none) (hv : bootBuiltins x = some (.builtin id)) (ha : A2 X W (e :: es) TA) (hg : Gl X x := by rfl) (hn : x ≠ "__name__" := by decide) (hdb : (x == ("__debug__" : Str)) = false := by decide)
    (he : starEach (e :: es) X.env = (false, eval e X.env) :: starEach es X.env := by rfl) (hpl : (backTo pos (starEach es X.env)).any (·.1) = false := by rfl) : E2 X W (.Call (.Name x p) (e :: es) [] pos) (dCB q TA) := ⟨fun x ds S Q Q' h p =>
    ha.mono x ds S _ _ (fun d S1 p1 => hc.mono _ _ _ _ h p1) p, by
  obtain ⟨r, pr, rr⟩ := hc.run
  obtain ⟨t, pt, rt⟩ := ha.run
  refine ⟨_, pe_callB pr hg hm hv pt hn hdb he hpl, fun x ds S σ H Q h q => ?_⟩
  refine rt x ds S σ H _ h (ha.mono x ds S _ _ (fun d S1 p1 vs H1 s1 r1 => ?_) q)
  exact rr d vs S1 H1 Q s1.wd r1 (hc.mono _ _ _ _ (fun z S2 q2 => q2.step s1) p1)⟩
theorem e_callTy {x : Str} {T : String} {q : QC} {p : Pos} (hc : C2 X (.type T) q) (hm : X.mg x = none) (hv : bootBuiltins x = some (.type T)) (ha : A2 X W (e :: es) TA) (hg : Gl X x := by rfl) (hn : x ≠ "__name__" := by decide) (hdb : (x == ("__debug__" : Str)) = false := by decide)
    (he : starEach (e :: es) X.env = (false, eval e X.env) :: starEach es X.env := by rfl) (hpl : (backTo pos (starEach es X.env)).any (·.1) = false := by rfl) : E2 X W (.Call (.Name x p) (e :: es) [] pos) (dCB q TA) := ⟨fun x ds S Q Q' h p =>
    ha.mono x ds S _ _ (fun d S1 p1 => hc.mono _ _ _ _ h p1) p, by
  obtain ⟨r, pr, rr⟩ := hc.run
  obtain ⟨t, pt, rt⟩ := ha.run
  refine ⟨_, pe_callTy pr hg hm hv pt hn hdb he hpl, fun x ds S σ H Q h q => ?_⟩
  refine rt x ds S σ H _ h (ha.mono x ds S _ _ (fun d S1 p1 vs H1 s1 r1 => ?_) q)
  exact rr d vs S1 H1 Q s1.wd r1 (hc.mono _ _ _ _ (fun z S2 q2 => q2.step s1) p1)⟩
end
end Sc

namespace Sc
open PySem PySem.Spec PyProof.Rows L2
/-! ### ints -/
def qI (C : Int → Int → Prop) (g : Int → Int → Dt) : QO := fun d e S Q => ∃ i j, d = .int i ∧ e = .int j ∧ C i j ∧ Q (g i j) S
def qI0 (g : Int → Int → Dt) : QO := fun d e S Q => ∃ i j, d = .int i ∧ e = .int j ∧ Q (g i j) S
section
variable {X : Cx} {f : Value → Value → Sem Value} {W : WX} {a b e : Expr} {es : List Expr} {Ta Tb Te : TE2} {Tt Tu : TT2} {TA : TA2} {pos : Pos}
theorem o_I {C : Int → Int → Prop} {g : Int → Int → Int} (h : OpR X f (rI C fun i j => .int (g i j))) : O2 X f (qI C fun i j => .int (g i j)) := ⟨fun d e S Q Q' hq ⟨i, j, e1, e2, c, q⟩ => ⟨i, j, e1, e2, c, hq _ _ q⟩,
  _, h, fun d e v u S H Q w r1 r2 ⟨i, j, e1, e2, c, q⟩ => by
    subst e1 e2
    exact ⟨i, j, r1, r2, c, q _ H ⟨Same.refl _, w⟩ rfl⟩⟩
theorem o_I0 {g : Int → Int → Int} (h : OpR X f (rI0 fun i j => .int (g i j))) : O2 X f (qI0 fun i j => .int (g i j)) := ⟨fun d e S Q Q' hq ⟨i, j, e1, e2, q⟩ => ⟨i, j, e1, e2, hq _ _ q⟩,
  _, h, fun d e v u S H Q w r1 r2 ⟨i, j, e1, e2, q⟩ => by
    subst e1 e2
    exact ⟨i, j, r1, r2, q _ H ⟨Same.refl _, w⟩ rfl⟩⟩
theorem o_B0 {g : Int → Int → Bool} (h : OpR X f (rI0 fun i j => .bl (g i j))) : O2 X f (qI0 fun i j => .bl (g i j)) := ⟨fun d e S Q Q' hq ⟨i, j, e1, e2, q⟩ => ⟨i, j, e1, e2, hq _ _ q⟩,
  _, h, fun d e v u S H Q w r1 r2 ⟨i, j, e1, e2, q⟩ => by
    subst e1 e2
    exact ⟨i, j, r1, r2, q _ H ⟨Same.refl _, w⟩ rfl⟩⟩
abbrev qAdd : QO := qI0 fun i j => .int (i + j)
abbrev qSub : QO := qI0 fun i j => .int (i - j)
abbrev qMul : QO := qI CMul fun i j => .int (i * j)
abbrev qFdiv : QO := qI CDivW fun i j => .int (i / j)
abbrev qFdivN : QO := qI CDivN fun i j => .int (i.fdiv j)
abbrev qMod : QO := qI (fun _ j => 0 < j) fun i j => .int (i % j)
abbrev qPow : QO := qI CPow fun i j => .int (i ^ j.toNat)
abbrev qLt : QO := qI0 fun i j => .bl (decide (i < j))
abbrev qLe : QO := qI0 fun i j => .bl (decide (i ≤ j))
abbrev qGt : QO := qI0 fun i j => .bl (decide (j < i))
abbrev qGe : QO := qI0 fun i j => .bl (decide (j ≤ i))
theorem o_add : O2 X (binaryOp .Add) (qI0 fun i j => .int (i + j)) := o_I0 op_add
theorem o_sub : O2 X (binaryOp .Sub) (qI0 fun i j => .int (i - j)) := o_I0 op_sub
theorem o_mul : O2 X (binaryOp .Mult) (qI CMul fun i j => .int (i * j)) := o_I op_mul
/-- // by a positive divisor below 2 ^ 9000 -/
theorem o_fdiv : O2 X (binaryOp .FloorDiv) (qI CDivW fun i j => .int (i / j)) := o_I op_fdivW
theorem o_fdivN : O2 X (binaryOp .FloorDiv) (qI CDivN fun i j => .int (i.fdiv j)) := o_I op_fdivN
theorem o_mod : O2 X (binaryOp .Mod) (qI (fun _ j => 0 < j) fun i j => .int (i % j)) := o_I op_mod
theorem o_modN : O2 X (binaryOp .Mod) (qI (fun _ j => j ≠ 0) fun i j => .int (i.fmod j)) := o_I op_modN
theorem o_pow : O2 X (binaryOp .Pow) (qI CPow fun i j => .int (i ^ j.toNat)) := o_I op_pow
theorem o_lt : O2 X (compareOp .Lt) (qI0 fun i j => .bl (decide (i < j))) := o_B0 op_lt
theorem o_le : O2 X (compareOp .LtE) (qI0 fun i j => .bl (decide (i ≤ j))) := o_B0 op_le
theorem o_gt : O2 X (compareOp .Gt) (qI0 fun i j => .bl (decide (j < i))) := o_B0 op_gt
theorem o_ge : O2 X (compareOp .GtE) (qI0 fun i j => .bl (decide (j ≤ i))) := o_B0 op_ge
/-! ### == of scalars -/
def sEq : Dt → Dt → Option Bool
  | .non, .non => some true | .non, .int _ => some false | .int _, .non => some false | .non, .bl _ => some false | .bl _, .non => some false | .non, .str _ => some false | .str _, .non => some false
  | .int i, .int j => some (decide (i = j)) | .bl i, .bl j => some (decide (i = j)) | .str i, .str j => some (decide (i = j))
  | .int _, .str _ => some false | .str _, .int _ => some false | .bl _, .str _ => some false | .str _, .bl _ => some false
  | _, _ => none
def qEq : QO := fun d e S Q => ∃ b, sEq d e = some b ∧ Q (.bl b) S
def qNe : QO := fun d e S Q => ∃ b, sEq d e = some b ∧ Q (.bl (!b)) S
theorem sEq_ok {K : PySem.W.Frag} {I : Hp} {d e : Dt} {v u : V} {b : Bool} (r1 : Rp K I d v) (r2 : Rp K I e u) (h : sEq d e = some b) : scal v u = true ∧ decide (v = u) = b := by
  cases d <;> cases e <;> (try (cases (show none = some b from h))) <;>
    (have r1' := r1
     have r2' := r2
     simp only [Rp] at r1' r2'
     subst r1' r2'
     first
       | exact ⟨rfl, Option.some.inj h⟩
       | (refine ⟨rfl, ?_⟩; have h' := Option.some.inj h; rw [← h']; simp))
theorem o_eq : O2 X (compareOp .Eq) qEq := ⟨fun d e S Q Q' hq ⟨b, h, q⟩ => ⟨b, h, hq _ _ q⟩, _, op_eq, fun d e v u S H Q w r1 r2 ⟨b, h, q⟩ => by
  obtain ⟨h1, h2⟩ := sEq_ok r1 r2 h
  exact ⟨h1, by rw [h2]; exact q _ H ⟨Same.refl _, w⟩ rfl⟩⟩
theorem o_ne : O2 X (compareOp .NotEq) qNe := ⟨fun d e S Q Q' hq ⟨b, h, q⟩ => ⟨b, h, hq _ _ q⟩, _, op_ne, fun d e v u S H Q w r1 r2 ⟨b, h, q⟩ => by
  obtain ⟨h1, h2⟩ := sEq_ok r1 r2 h
  exact ⟨h1, by rw [h2]; exact q _ H ⟨Same.refl _, w⟩ rfl⟩⟩
/-! ### is None -/
def isN : Dt → Bool
  | .non => true
  | _ => false
theorem isN_ok {K : PySem.W.Frag} {I : Hp} {d : Dt} {v : V} (r : Rp K I d v) : decide (v = .non) = isN d := by
  cases d <;> (have r' := r; simp only [Rp] at r') <;> first
    | (subst r'; rfl)
    | (obtain ⟨_, _, e, _⟩ := r'; subst e; rfl)
    | (subst r'; simp [isN])
def qIsN : QO := fun d e S Q => e = .non ∧ Q (.bl (isN d)) S
def qNotN : QO := fun d e S Q => e = .non ∧ Q (.bl (!isN d)) S
theorem o_isN : O2 X (compareOp .Is) qIsN := ⟨fun d e S Q Q' hq ⟨h, q⟩ => ⟨h, hq _ _ q⟩, _, op_isN, fun d e v u S H Q w r1 r2 ⟨h, q⟩ => by
  subst h
  exact ⟨r2, by rw [isN_ok r1]; exact q _ H ⟨Same.refl _, w⟩ rfl⟩⟩
theorem o_notN : O2 X (compareOp .IsNot) qNotN := ⟨fun d e S Q Q' hq ⟨h, q⟩ => ⟨h, hq _ _ q⟩, _, op_notN, fun d e v u S H Q w r1 r2 ⟨h, q⟩ => by
  subst h
  exact ⟨r2, by rw [isN_ok r1]; exact q _ H ⟨Same.refl _, w⟩ rfl⟩⟩
def qIsB : QO := fun d e S Q => ∃ i j, d = .bl i ∧ e = .bl j ∧ Q (.bl (decide (i = j))) S
def qNotB : QO := fun d e S Q => ∃ i j, d = .bl i ∧ e = .bl j ∧ Q (.bl (!decide (i = j))) S
theorem o_isB : O2 X (compareOp .Is) qIsB := ⟨fun d e S Q Q' hq ⟨i, j, e1, e2, q⟩ => ⟨i, j, e1, e2, hq _ _ q⟩, _, op_isBl, fun d e v u S H Q w r1 r2 ⟨i, j, e1, e2, q⟩ => by
  subst e1 e2
  exact ⟨i, j, r1, r2, q _ H ⟨Same.refl _, w⟩ rfl⟩⟩
theorem o_notB : O2 X (compareOp .IsNot) qNotB := ⟨fun d e S Q Q' hq ⟨i, j, e1, e2, q⟩ => ⟨i, j, e1, e2, hq _ _ q⟩, _, op_notBl, fun d e v u S H Q w r1 r2 ⟨i, j, e1, e2, q⟩ => by
  subst e1 e2
  exact ⟨i, j, r1, r2, q _ H ⟨Same.refl _, w⟩ rfl⟩⟩
/-! ### unary minus -/
structure U2 (X : Cx) (f : Value → Sem Value) (q : Dt → Cells → QE → Prop) : Prop where
  mono : ∀ d S Q Q', (∀ d S', Q d S' → Q' d S') → q d S Q → q d S Q'
  run : ∃ r, UnR X f r ∧ ∀ d v S H Q, Wd X.K S H → Rp X.K (wo S H) d v → q d S (up X.K S H Q) → r v H Q
def dUn (q : Dt → Cells → QE → Prop) (T : TE2) : TE2 := fun x ds S Q => T x ds S fun d S1 => q d S1 Q
theorem e_un {op : UnaryOp} {q : Dt → Cells → QE → Prop} (ho : U2 X (unaryOp op) q) (ha : E2 X W a Ta) : E2 X W (.UnaryOp op a pos) (dUn q Ta) := ⟨fun x ds S Q Q' h p => ha.mono x ds S _ _ (fun d S1 p1 => ho.mono _ _ _ _ h p1) p, by
  obtain ⟨t, p, r⟩ := ha.run
  obtain ⟨rr, po, ro⟩ := ho.run
  exact ⟨_, pe_un po p, fun x ds S σ H Q h q => r x ds S σ H _ h (ha.mono x ds S _ _ (fun d S1 p1 v H1 s1 r1 => ro d v S1 H1 Q s1.wd r1 (ho.mono _ _ _ _ (fun z S2 q2 => q2.step s1) p1)) q)⟩⟩
def qNeg : Dt → Cells → QE → Prop := fun d S Q => ∃ i, d = .int i ∧ Q (.int (-i)) S
theorem u_neg : U2 X (unaryOp .USub) qNeg := ⟨fun d S Q Q' hq ⟨i, e, q⟩ => ⟨i, e, hq _ _ q⟩, _, un_neg, fun d v S H Q w r1 ⟨i, e, q⟩ => by
  subst e
  exact ⟨i, r1, q _ H ⟨Same.refl _, w⟩ rfl⟩⟩
/-! ### what may be read as a list, a tuple -/
def asL (S : Cells) : Dt → Option (List Dt)
  | .lst ds => some ds
  | .ref a => match S a with
    | some (.lst ds) => some ds
    | _ => none
  | _ => none
def asT : Dt → Option (List Dt)
  | .tup ds => some ds
  | _ => none
def asQ (S : Cells) : Dt → Option (List Dt)
  | .tup ds => some ds
  | d => asL S d
theorem asL_ok {K : PySem.W.Frag} {S : Cells} {H : Hp} {d : Dt} {ds : List Dt} {v : V} (w : Wd K S H) (r : Rp K (wo S H) d v) (h : asL S d = some ds) : ∃ a xs, v = .ref a ∧ SqL K H a xs ∧ Rps K (wo S H) ds xs := by
  cases d with
  | lst es =>
    cases (show some es = some ds from h)
    obtain ⟨a, xs, e, h1, h2⟩ := r
    exact ⟨a, xs, e, sqL_mono wo_le h1, h2⟩
  | ref a =>
    have h' : (match S a with | some (.lst ds) => some ds | _ => none) = some ds := h
    cases q : S a with
    | none => rw [q] at h'; cases h'
    | some c =>
      cases c with
      | ins C fs => rw [q] at h'; cases h'
      | lst es =>
        rw [q] at h'
        cases (show some es = some ds from h')
        obtain ⟨xs, h1, h2⟩ := w a _ q
        exact ⟨a, xs, r, SqL.of h1, h2⟩
  | _ => cases h
theorem asT_ok {K : PySem.W.Frag} {S : Cells} {H : Hp} {d : Dt} {ds : List Dt} {v : V} (r : Rp K (wo S H) d v) (h : asT d = some ds) : ∃ a xs, v = .ref a ∧ SqT K H a xs ∧ Rps K (wo S H) ds xs := by
  cases d with
  | tup es =>
    cases (show some es = some ds from h)
    obtain ⟨a, xs, e, h1, h2⟩ := r
    exact ⟨a, xs, e, sqT_mono wo_le h1, h2⟩
  | _ => cases h
theorem asQ_ok {K : PySem.W.Frag} {S : Cells} {H : Hp} {d : Dt} {ds : List Dt} {v : V} (w : Wd K S H) (r : Rp K (wo S H) d v) (h : asQ S d = some ds) : ∃ a xs, v = .ref a ∧ (SqL K H a xs ∨ SqT K H a xs) ∧ Rps K (wo S H) ds xs := by
  cases d with
  | tup es =>
    obtain ⟨a, xs, h1, h2, h3⟩ := asT_ok r (show asT (.tup es) = some ds from h)
    exact ⟨a, xs, h1, .inr h2, h3⟩
  | lst es =>
    obtain ⟨a, xs, h1, h2, h3⟩ := asL_ok w r (show asL S (.lst es) = some ds from h)
    exact ⟨a, xs, h1, .inl h2, h3⟩
  | ref a =>
    obtain ⟨a, xs, h1, h2, h3⟩ := asL_ok w r (show asL S (.ref a) = some ds from h)
    exact ⟨a, xs, h1, .inl h2, h3⟩
  | _ => cases h
/-! ### truth -/
def truD (S : Cells) : Dt → Option Bool
  | .non => some false
  | .bl b => some b
  | .int i => some (i != 0)
  | .str _ => none
  | d => (asQ S d).map fun ds => !ds.isEmpty
theorem isEmpty_rps {K : PySem.W.Frag} {I : Hp} {ds : List Dt} {xs : List V} (h : Rps K I ds xs) : ds.isEmpty = xs.isEmpty := by
  cases ds with
  | nil => cases (show xs = [] from h); rfl
  | cons d ds => obtain ⟨v, vs, e, _⟩ := h; subst e; rfl
theorem truD_ok {K : PySem.W.Frag} {S : Cells} {H : Hp} {d : Dt} {v : V} {k : Bool} (w : Wd K S H) (r : Rp K (wo S H) d v) (h : truD S d = some k) : TruV K v H k := by
  have seq : ∀ ds, asQ S d = some ds → k = !ds.isEmpty → TruV K v H k := fun ds h1 h2 => by
    obtain ⟨a, xs, e, h3, h4⟩ := asQ_ok w r h1
    subst e
    rw [isEmpty_rps h4] at h2
    rcases h3 with h3 | h3
    · exact .inl ⟨xs, h3, h2⟩
    · exact .inr (.inl ⟨xs, h3, h2⟩)
  cases d with
  | non => cases (show v = _ from r); exact (Option.some.inj h).symm
  | bl b => cases (show v = _ from r); exact (Option.some.inj h).symm
  | int i => cases (show v = _ from r); exact (Option.some.inj h).symm
  | str s => cases h
  | tup ds => exact seq ds rfl (Option.some.inj h).symm
  | lst ds => exact seq ds rfl (Option.some.inj h).symm
  | ref a =>
    cases q : asQ S (.ref a) with
    | none =>
      have h' : (asQ S (.ref a)).map (fun ds => !ds.isEmpty) = some k := h
      rw [q] at h'
      cases h'
    | some ds =>
      have h' : (asQ S (.ref a)).map (fun ds => !ds.isEmpty) = some k := h
      rw [q] at h'
      exact seq ds q (Option.some.inj h').symm
def dTru (T : TE2) : TT2 := fun x ds S Q => T x ds S fun d S1 => ∃ k, truD S1 d = some k ∧ Q k S1
theorem t_tru (he : E2 X W e Te) (hs : ∀ whole, isTrue e X.env whole = (do let v ← whole; standAt e.pos; holding [v] (truthy v)) := by intro _; rfl) : T2 X W e (dTru Te) := ⟨fun x ds S Q Q' h p => he.mono x ds S _ _ (fun d S1 ⟨k, e, q⟩ => ⟨k, e, h _ _ q⟩) p, by
  obtain ⟨t, p, r⟩ := he.run
  exact ⟨_, pt_truth p hs, fun x ds S σ H Q h q => r x ds S σ H _ h (he.mono x ds S _ _ (fun d S1 ⟨k, e, q⟩ v H1 s1 r1 => ⟨k, truD_ok s1.wd r1 e, q _ s1⟩) q)⟩⟩
def dOrT (Ta Tb : TE2) : TE2 := fun x ds S Q => Ta x ds S fun d S1 => ∃ k, truD S1 d = some k ∧ if k = true then Q d S1 else Tb x ds S1 Q
theorem e_orT {rest : List Expr} (ha : E2 X W a Ta) (hb : E2 X W (.BoolOp .Or (b :: rest) pos) Tb) : E2 X W (.BoolOp .Or (a :: b :: rest) pos) (dOrT Ta Tb) := ⟨fun x ds S Q Q' h p =>
    ha.mono x ds S _ _ (fun d S1 ⟨k, e, p1⟩ => ⟨k, e, ite_mono p1 (fun p1 => h _ _ p1) (fun p1 => hb.mono x ds S1 _ _ h p1)⟩) p, by
  obtain ⟨t, p, r⟩ := ha.run
  obtain ⟨u, p', r'⟩ := hb.run
  refine ⟨_, pe_orT p p', fun x ds S σ H Q h q => ?_⟩
  refine r x ds S σ H _ h (ha.mono x ds S _ _ (fun d S1 ⟨k, e, p1⟩ v H1 s1 r1 => ⟨k, truD_ok s1.wd r1 e, ?_⟩) q)
  exact ite_mono p1 (fun p1 => p1 _ _ s1 r1) (fun p1 => r' x ds S1 σ H1 _ (h.step s1) (hb.mono x ds S1 _ _ (fun b S2 q2 => q2.step s1) p1))⟩
/-! ### subscripts -/
structure I2 (X : Cx) (q : QO) : Prop where
  mono : ∀ d e S Q Q', (∀ d S', Q d S' → Q' d S') → q d e S Q → q d e S Q'
  run : ∃ r, IxR X r ∧ ∀ d e v u S H Q, Wd X.K S H → Rp X.K (wo S H) d v → Rp X.K (wo S H) e u → q d e S (up X.K S H Q) → r v u H Q
theorem e_ix {q : QO} (ho : I2 X q) (ha : E2 X W a Ta) (hb : E2 X W b Tb) (hs : PlainIx b := by exact fun _ _ => rfl) : E2 X W (.Subscript a b pos) (dOp q Ta Tb) := ⟨dOp.mono ho.mono ha hb, by
  obtain ⟨ta, pa, ra⟩ := ha.run
  obtain ⟨tb, pb, rb⟩ := hb.run
  obtain ⟨r, po, rr⟩ := ho.run
  exact ⟨_, pe_ix po pa pb hs, dOp.run rr ho.mono ha.mono hb.mono ra rb⟩⟩
def qIx : QO := fun d e S Q => ∃ ds i z, asQ S d = some ds ∧ e = .int i ∧ atI ds i = some z ∧ Q z S
theorem rps_atI {K : PySem.W.Frag} {I : Hp} {ds : List Dt} {xs : List V} {i : Int} {z : Dt} (h : Rps K I ds xs) (e : atI ds i = some z) : ∃ v, atI xs i = some v ∧ Rp K I z v := by
  unfold atI at e ⊢
  rw [h.length]
  cases q : ixN ds.length i with
  | none => rw [q] at e; cases e
  | some j =>
    rw [q] at e
    exact h.get e
theorem i_seq : I2 X qIx := ⟨fun d e S Q Q' hq ⟨ds, i, z, h1, h2, h3, q⟩ => ⟨ds, i, z, h1, h2, h3, hq _ _ q⟩, _, ix_list.or ix_tup, fun d e v u S H Q w r1 r2 ⟨ds, i, z, h1, h2, h3, q⟩ => by
  subst h2
  obtain ⟨a, xs, e, hs, hr⟩ := asQ_ok w r1 h1
  obtain ⟨zv, h4, h5⟩ := rps_atI hr h3
  rcases hs with hs | hs
  · exact .inl ⟨a, xs, i, zv, e, r2, hs, h4, q _ H ⟨Same.refl _, w⟩ h5⟩
  · exact .inr ⟨a, xs, i, zv, e, r2, hs, h4, q _ H ⟨Same.refl _, w⟩ h5⟩⟩
/-! ### slices -/
abbrev TO2 := XK2 → Ds → Cells → (Option Int → Cells → Prop) → Prop
def upO (K : PySem.W.Frag) (S : Cells) (H : Hp) (Q : Option Int → Hp → Prop) : Option Int → Cells → Prop := fun b S' => ∀ H', Step K S H S' H' → Q b H'
structure P2 (X : Cx) (W : WX) (e : Option Expr) (T : TO2) : Prop where
  mono : ∀ x ds S Q Q', (∀ d S', Q d S' → Q' d S') → T x ds S Q → T x ds S Q'
  run : ∃ t, PO X e t ∧ ∀ x ds S σ H Q, Here X.K W x ds S σ H → T x ds S (upO X.K S H Q) → t σ H Q
def dNoP : TO2 := fun _ _ S Q => Q none S
def dPart (T : TE2) : TO2 := fun x ds S Q => T x ds S fun d S1 => ∃ i, d = .int i ∧ Q (some i) S1
theorem p_none : P2 X W none dNoP := ⟨fun _ _ _ _ _ h q => h _ _ q, _, po_none, fun x ds S σ H Q h q => q _ h.refl⟩
theorem p_some (h : E2 X W e Te) : P2 X W (some e) (dPart Te) := ⟨fun x ds S Q Q' hq p => h.mono x ds S _ _ (fun d S1 ⟨i, e, q⟩ => ⟨i, e, hq _ _ q⟩) p, by
  obtain ⟨t, p, r⟩ := h.run
  refine ⟨_, po_some p, fun x ds S σ H Q hh q => r x ds S σ H _ hh (h.mono x ds S _ _ (fun d S1 ⟨i, e, q⟩ v H1 s1 r1 => ?_) q)⟩
  subst e
  exact ⟨i, r1, q _ s1⟩⟩
abbrev QL := Dt → Option Int → Option Int → Cells → QE → Prop
structure L2' (X : Cx) (q : QL) : Prop where
  mono : ∀ d l h S Q Q', (∀ d S', Q d S' → Q' d S') → q d l h S Q → q d l h S Q'
  run : ∃ r, SlR X r ∧ ∀ d l h v S H Q, Wd X.K S H → Rp X.K (wo S H) d v → q d l h S (up X.K S H Q) → r v l h H Q
def dSl (q : QL) (T : TE2) (Tl Th : TO2) : TE2 := fun x ds S Q => T x ds S fun d S1 => Tl x ds S1 fun l S2 => Th x ds S2 fun h S3 => q d l h S3 Q
theorem e_slice {q : QL} {lo hi : Option Expr} {Tl Th : TO2} {p2 : Pos} (hq : L2' X q) (he : E2 X W e Te) (hl : P2 X W lo Tl) (hh : P2 X W hi Th) : E2 X W (.Subscript e (.Slice lo hi none p2) pos) (dSl q Te Tl Th) := ⟨fun x ds S Q Q' h p =>
    he.mono x ds S _ _ (fun d S1 p1 => hl.mono x ds S1 _ _ (fun l S2 p2 => hh.mono x ds S2 _ _ (fun u S3 p3 => hq.mono _ _ _ _ _ _ h p3) p2) p1) p, by
  obtain ⟨te, pe, re⟩ := he.run
  obtain ⟨tl, pl, rl⟩ := hl.run
  obtain ⟨th, ph, rh⟩ := hh.run
  obtain ⟨r, pr, rr⟩ := hq.run
  refine ⟨_, pe_slice pr pe pl ph, fun x ds S σ H Q h p => ?_⟩
  refine re x ds S σ H _ h (he.mono x ds S _ _ (fun d S1 p1 v H1 s1 r1 => ?_) p)
  refine rl x ds S1 σ H1 _ (h.step s1) (hl.mono x ds S1 _ _ (fun l S2 p2 H2 s2 => ?_) p1)
  refine rh x ds S2 σ H2 _ (h.step (s1.trans s2)) (hh.mono x ds S2 _ _ (fun u S3 p3 H3 s3 => ?_) p2)
  exact rr d l u v S3 H3 Q s3.wd (r1.mono (s2.trans s3).same) (hq.mono _ _ _ _ _ _ (fun z S4 q4 => q4.step (s1.trans (s2.trans s3))) p3)⟩
def cutG {α : Type} (xs : List α) (lo hi : Option Int) : List α := (xs.drop (HT.sIx xs.length 0 lo)).take (HT.sIx xs.length xs.length hi - HT.sIx xs.length 0 lo)
theorem cutG_rps {K : PySem.W.Frag} {I : Hp} {ds : List Dt} {xs : List V} (h : Rps K I ds xs) (lo hi : Option Int) : Rps K I (cutG ds lo hi) (cutV xs lo hi) := by
  unfold cutG cutV
  rw [h.length]
  exact Rps.take _ (Rps.drop _ h)
theorem cutG_whole {ds : List Dt} {lo hi : Option Int} (h : HT.sIx ds.length 0 lo = 0 ∧ HT.sIx ds.length ds.length hi = ds.length) : cutG ds lo hi = ds := by
  unfold cutG
  rw [h.1, h.2, List.drop_zero, Nat.sub_zero, List.take_length]
def qSlT : QL := fun d lo hi S Q => ∃ ds, asT d = some ds ∧ Q (.tup (cutG ds lo hi)) S
theorem s_tup : L2' X qSlT := ⟨fun d l h S Q Q' hq ⟨ds, e, q⟩ => ⟨ds, e, hq _ _ q⟩, _, sl_tupA, fun d l h v S H Q w r ⟨ds, e, q⟩ => by
  obtain ⟨a, xs, e1, h1, h2⟩ := asT_ok r e
  subst e1
  refine ⟨a, xs, rfl, h1, fun hw => ?_, fun _ p hp => newT.run ⟨Same.refl _, w⟩ (cutG_rps h2 l h) q hp⟩
  rw [h2.length] at hw
  rw [cutG_whole hw] at q
  refine q _ H ⟨Same.refl _, w⟩ ?_
  cases d with
  | tup es => cases (show some es = some ds from e); exact r
  | _ => cases e⟩
def qSlL : QL := fun d lo hi S Q => ∃ ds, asL S d = some ds ∧ newL (cutG ds lo hi) S Q
theorem s_lst : L2' X qSlL := ⟨fun d l h S Q Q' hq ⟨ds, e, q⟩ => ⟨ds, e, newL.mono hq q⟩, _, sl_list, fun d l h v S H Q w r ⟨ds, e, q⟩ => by
  obtain ⟨a, xs, e1, h1, h2⟩ := asL_ok w r e
  exact ⟨a, xs, e1, h1, fun p hp => newL.run ⟨Same.refl _, w⟩ (cutG_rps h2 l h) q hp⟩⟩
/-! ### + and * of tuples, lists -/
def qCatT : QO := fun d e S Q => ∃ ds es, asT d = some ds ∧ asT e = some es ∧ ds.length + es.length ≤ 100000 ∧ Q (.tup (ds ++ es)) S
theorem o_catT : O2 X (binaryOp .Add) qCatT := ⟨fun d e S Q Q' hq ⟨ds, es, h1, h2, h3, q⟩ => ⟨ds, es, h1, h2, h3, hq _ _ q⟩, _, op_catA, fun d e v u S H Q w r1 r2 ⟨ds, es, h1, h2, h3, q⟩ => by
  obtain ⟨a, xs, e1, k1, k2⟩ := asT_ok r1 h1
  obtain ⟨b, ys, e2, k3, k4⟩ := asT_ok r2 h2
  subst e1 e2
  refine ⟨a, b, xs, ys, rfl, rfl, k1, k3, by rw [k2.length, k4.length]; exact size_le h3, fun z => ?_, fun _ z => ?_, fun _ _ p hp => newT.run ⟨Same.refl _, w⟩ (k2.app k4) q hp⟩
  · have hd : ds = [] := by
      have := k2.length
      rw [z] at this
      exact List.eq_nil_of_length_eq_zero this.symm
    rw [hd, List.nil_append] at q
    refine q _ H ⟨Same.refl _, w⟩ ?_
    cases e with
    | tup _ => cases (show some _ = some es from h2); exact r2
    | _ => cases h2
  · have hd : es = [] := by
      have := k4.length
      rw [z] at this
      exact List.eq_nil_of_length_eq_zero this.symm
    rw [hd, List.append_nil] at q
    refine q _ H ⟨Same.refl _, w⟩ ?_
    cases d with
    | tup _ => cases (show some _ = some ds from h1); exact r1
    | _ => cases h1⟩
theorem Rps.rep {K : PySem.W.Frag} {I : Hp} {ds : List Dt} {xs : List V} (h : Rps K I ds xs) : ∀ k : Nat, Rps K I (List.replicate k ds).flatten (List.replicate k xs).flatten
  | 0 => rfl
  | k + 1 => by
    rw [List.replicate_succ, List.replicate_succ, List.flatten_cons, List.flatten_cons]
    exact h.app (Rps.rep h k)
def qRepT : QO := fun d e S Q => ∃ ds k, asT d = some ds ∧ e = .int k ∧ ds ≠ [] ∧ 2 ≤ k ∧ k ≤ 1000 ∧ ds.length ≤ 1000 ∧ Q (.tup (List.replicate k.toNat ds).flatten) S
theorem o_repT : O2 X (binaryOp .Mult) qRepT := ⟨fun d e S Q Q' hq ⟨ds, k, h1, h2, h3, h4, h5, h6, q⟩ => ⟨ds, k, h1, h2, h3, h4, h5, h6, hq _ _ q⟩, _, op_repT, fun d e v u S H Q w r1 r2 ⟨ds, k, h1, h2, h3, h4, h5, h6, q⟩ => by
  obtain ⟨a, xs, e1, k1, k2⟩ := asT_ok r1 h1
  subst h2
  refine ⟨a, k, xs, e1, r2, k1, fun z => h3 ?_, h4, h5, by rw [k2.length]; exact h6, fun p hp => newT.run ⟨Same.refl _, w⟩ (k2.rep k.toNat) q hp⟩
  have := k2.length
  rw [z] at this
  exact List.eq_nil_of_length_eq_zero this.symm⟩
/-! ### built-ins -/
def qAbs : QC := fun ds S Q => ∃ i, ds = [.int i] ∧ Q (.int (if i < 0 then -i else i)) S
theorem c_abs : C2 X (.builtin "abs") qAbs := ⟨fun ds S Q Q' hq ⟨i, e, q⟩ => ⟨i, e, hq _ _ q⟩, _, call_abs, fun ds vs S H Q w r ⟨i, e, q⟩ => by
  subst e
  obtain ⟨v, vs, e1, r1, r2⟩ := r
  cases (show vs = [] from r2)
  cases (show v = _ from r1)
  exact ⟨i, e1, q _ H ⟨Same.refl _, w⟩ rfl⟩⟩
theorem rps2 {K : PySem.W.Frag} {I : Hp} {a b : Dt} {vs : List V} (r : Rps K I [a, b] vs) : ∃ u v, vs = [u, v] ∧ Rp K I a u ∧ Rp K I b v := by
  obtain ⟨u, vs, e1, r1, r2⟩ := r
  obtain ⟨v, vs2, e2, r3, r4⟩ := r2
  cases (show vs2 = [] from r4)
  subst e2
  exact ⟨u, v, e1, r1, r3⟩
theorem rps1 {K : PySem.W.Frag} {I : Hp} {a : Dt} {vs : List V} (r : Rps K I [a] vs) : ∃ u, vs = [u] ∧ Rp K I a u := by
  obtain ⟨u, vs, e1, r1, r2⟩ := r
  cases (show vs = [] from r2)
  exact ⟨u, e1, r1⟩
def qMax2 : QC := fun ds S Q => ∃ i j, ds = [.int i, .int j] ∧ Q (.int (if j > i then j else i)) S
theorem c_max2 (hc : X.calm = true) : C2 X (.builtin "max") qMax2 := ⟨fun ds S Q Q' hq ⟨i, j, e, q⟩ => ⟨i, j, e, hq _ _ q⟩, _, call_max2 hc, fun ds vs S H Q w r ⟨i, j, e, q⟩ => by
  subst e
  obtain ⟨u, v, e1, r1, r2⟩ := rps2 r
  cases (show u = _ from r1)
  cases (show v = _ from r2)
  exact ⟨i, j, e1, q _ H ⟨Same.refl _, w⟩ rfl⟩⟩
def qMin2 : QC := fun ds S Q => ∃ i j, ds = [.int i, .int j] ∧ Q (.int (if j < i then j else i)) S
theorem c_min2 (hc : X.calm = true) : C2 X (.builtin "min") qMin2 := ⟨fun ds S Q Q' hq ⟨i, j, e, q⟩ => ⟨i, j, e, hq _ _ q⟩, _, call_min2 hc, fun ds vs S H Q w r ⟨i, j, e, q⟩ => by
  subst e
  obtain ⟨u, v, e1, r1, r2⟩ := rps2 r
  cases (show u = _ from r1)
  cases (show v = _ from r2)
  exact ⟨i, j, e1, q _ H ⟨Same.refl _, w⟩ rfl⟩⟩
def qLen : QC := fun ds S Q => ∃ d es, ds = [d] ∧ asQ S d = some es ∧ Q (.int es.length) S
theorem c_len : C2 X (.builtin "len") qLen := ⟨fun ds S Q Q' hq ⟨d, es, e, h, q⟩ => ⟨d, es, e, h, hq _ _ q⟩, _, call_len, fun ds vs S H Q w r ⟨d, es, e, h, q⟩ => by
  subst e
  obtain ⟨u, e1, r1⟩ := rps1 r
  obtain ⟨a, xs, e2, h1, h2⟩ := asQ_ok w r1 h
  subst e2
  refine ⟨.ref a, es.length, e1, ?_, q _ H ⟨Same.refl _, w⟩ rfl⟩
  rcases h1 with h1 | h1
  · exact .inl ⟨xs, h1, h2.length.symm⟩
  · exact .inr ⟨xs, h1, h2.length.symm⟩⟩
/-- tuple(xs) -/
def qTupOf : QC := fun ds S Q => ∃ d es, ds = [d] ∧ asQ S d = some es ∧ Q (.tup es) S
theorem c_tuple : C2 X (.type "tuple") qTupOf := ⟨fun ds S Q Q' hq ⟨d, es, e, h, q⟩ => ⟨d, es, e, h, hq _ _ q⟩, _, call_tuple_of, fun ds vs S H Q w r ⟨d, es, e, h, q⟩ => by
  subst e
  obtain ⟨u, e1, r1⟩ := rps1 r
  cases d with
  | tup fs =>
    obtain ⟨a, xs, e2, h1, h2⟩ := asT_ok r1 (show asT (.tup fs) = some es from h)
    subst e2
    refine ⟨a, xs, e1, .inr ⟨h1, q _ H ⟨Same.refl _, w⟩ ?_⟩⟩
    cases (show some fs = some es from h)
    exact r1
  | lst fs =>
    obtain ⟨a, xs, e2, h1, h2⟩ := asL_ok w r1 (show asL S (.lst fs) = some es from h)
    subst e2
    exact ⟨a, xs, e1, .inl ⟨h1, fun l hl => newT.run ⟨Same.refl _, w⟩ h2 q hl⟩⟩
  | ref c =>
    obtain ⟨a, xs, e2, h1, h2⟩ := asL_ok w r1 (show asL S (.ref c) = some es from h)
    subst e2
    exact ⟨a, xs, e1, .inl ⟨h1, fun l hl => newT.run ⟨Same.refl _, w⟩ h2 q hl⟩⟩
  | _ => cases h⟩
/-- list(xs) -/
def qLstOf : QC := fun ds S Q => ∃ d es, ds = [d] ∧ asQ S d = some es ∧ newL es S Q
theorem c_list : C2 X (.type "list") qLstOf := ⟨fun ds S Q Q' hq ⟨d, es, e, h, q⟩ => ⟨d, es, e, h, newL.mono hq q⟩, _, call_list_of, fun ds vs S H Q w r ⟨d, es, e, h, q⟩ => by
  subst e
  obtain ⟨u, e1, r1⟩ := rps1 r
  obtain ⟨a, xs, e2, h1, h2⟩ := asQ_ok w r1 h
  subst e2
  exact ⟨a, xs, e1, h1, fun l hl => newL.run ⟨Same.refl _, w⟩ h2 q hl⟩⟩
def qAll : QC := fun ds S Q => ∃ (d : Dt) (bs : List Bool), ds = [d] ∧ asL S d = some (bs.map Dt.bl) ∧ Q (.bl (bs.all id)) S
theorem c_all (hc : X.calm = true) : C2 X (.builtin "all") qAll := ⟨fun ds S Q Q' hq ⟨d, es, e, h, q⟩ => ⟨d, es, e, h, hq _ _ q⟩, _, cr_all hc, fun ds vs S H Q w r ⟨d, bs, e, h, q⟩ => by
  subst e
  obtain ⟨u, e1, r1⟩ := rps1 r
  obtain ⟨a, xs, e2, h1, h2⟩ := asL_ok w r1 h
  subst e2
  rw [h2.bls] at h1
  exact ⟨a, bs, e1, h1, q _ H ⟨Same.refl _, w⟩ rfl⟩⟩
def qSum : QC := fun ds S Q => ∃ (d : Dt) (ns : List Int), ds = [d] ∧ asL S d = some (ns.map Dt.int) ∧ Q (.int ns.sum) S
theorem c_sum (hc : X.calm = true) : C2 X (.builtin "sum") qSum := ⟨fun ds S Q Q' hq ⟨d, es, e, h, q⟩ => ⟨d, es, e, h, hq _ _ q⟩, _, cr_sum hc, fun ds vs S H Q w r ⟨d, bs, e, h, q⟩ => by
  subst e
  obtain ⟨u, e1, r1⟩ := rps1 r
  obtain ⟨a, xs, e2, h1, h2⟩ := asL_ok w r1 h
  subst e2
  rw [h2.ints] at h1
  exact ⟨a, bs, e1, h1, q _ H ⟨Same.refl _, w⟩ rfl⟩⟩
def qMaxL : QC := fun ds S Q => ∃ (d : Dt) (ns : List Int), ds = [d] ∧ asL S d = some (ns.map Dt.int) ∧ 0 < ns.length ∧ ∀ m, m ∈ ns → (∀ y, y ∈ ns → y ≤ m) → Q (.int m) S
theorem c_maxL (hc : X.calm = true) : C2 X (.builtin "max") qMaxL := ⟨fun ds S Q Q' hq ⟨d, es, e, h, h0, q⟩ => ⟨d, es, e, h, h0, fun m h1 h2 => hq _ _ (q m h1 h2)⟩, _, cr_max hc, fun ds vs S H Q w r ⟨d, bs, e, h, h0, q⟩ => by
  subst e
  obtain ⟨u, e1, r1⟩ := rps1 r
  obtain ⟨a, xs, e2, h1, h2⟩ := asL_ok w r1 h
  subst e2
  rw [h2.ints] at h1
  exact ⟨a, bs, e1, h1, h0, fun m k1 k2 => q m k1 k2 _ H ⟨Same.refl _, w⟩ rfl⟩⟩
def qMinL : QC := fun ds S Q => ∃ (d : Dt) (ns : List Int), ds = [d] ∧ asL S d = some (ns.map Dt.int) ∧ 0 < ns.length ∧ ∀ m, m ∈ ns → (∀ y, y ∈ ns → m ≤ y) → Q (.int m) S
theorem c_minL (hc : X.calm = true) : C2 X (.builtin "min") qMinL := ⟨fun ds S Q Q' hq ⟨d, es, e, h, h0, q⟩ => ⟨d, es, e, h, h0, fun m h1 h2 => hq _ _ (q m h1 h2)⟩, _, cr_min hc, fun ds vs S H Q w r ⟨d, bs, e, h, h0, q⟩ => by
  subst e
  obtain ⟨u, e1, r1⟩ := rps1 r
  obtain ⟨a, xs, e2, h1, h2⟩ := asL_ok w r1 h
  subst e2
  rw [h2.ints] at h1
  exact ⟨a, bs, e1, h1, h0, fun m k1 k2 => q m k1 k2 _ H ⟨Same.refl _, w⟩ rfl⟩⟩
/-! ### isinstance(e, T), T a built-in type -/
def tyName (S : Cells) : Dt → Option String
  | .non => some "NoneType" | .bl _ => some "bool" | .int _ => some "int" | .str _ => some "str" | .tup _ => some "tuple" | .lst _ => some "list"
  | .ref a => match S a with
    | some (.lst _) => some "list"
    | _ => none
theorem tyName_ok {K : PySem.W.Frag} {S : Cells} {H : Hp} {d : Dt} {v : V} {n : String} (w : Wd K S H) (r : Rp K (wo S H) d v) (h : tyName S d = some n) : TyX K H v (.type n) := by
  have lst : ∀ a xs, SqL K H a xs → TyX K H (.ref a) (.type "list") := fun a xs h => by
    rcases h with (h | ⟨o, h⟩) | ⟨o, its, m, h1, h2, _⟩
    · exact .base (.lst h)
    · exact .base (.frz h)
    · exact .kList h1 h2
  cases d with
  | non => cases (show v = _ from r); cases (show some _ = some n from h); exact .base .non
  | bl b => cases (show v = _ from r); cases (show some _ = some n from h); exact .base (.bl b)
  | int b => cases (show v = _ from r); cases (show some _ = some n from h); exact .base (.int b)
  | str b => cases (show v = _ from r); cases (show some _ = some n from h); exact .base (.str b)
  | tup ds =>
    cases (show some _ = some n from h)
    obtain ⟨a, xs, e, h1, h2⟩ := r
    subst e
    rcases sqT_mono wo_le h1 with (h | ⟨o, h⟩) | ⟨o, its, m, h1, h2, _⟩
    · exact .base (.tup h)
    · exact .fTuple h
    · exact .kTuple h1 h2
  | lst ds =>
    cases (show some _ = some n from h)
    obtain ⟨a, xs, e, h1, h2⟩ := r
    subst e
    exact lst a xs (sqL_mono wo_le h1)
  | ref a =>
    cases (show v = _ from r)
    have h' : (match S a with | some (.lst _) => some "list" | _ => none) = some n := h
    cases q : S a with
    | none => rw [q] at h'; cases h'
    | some c =>
      cases c with
      | ins C fs => rw [q] at h'; cases h'
      | lst es =>
        rw [q] at h'
        cases (show some _ = some n from h')
        obtain ⟨xs, h1, _⟩ := w a _ q
        exact lst a xs (SqL.of h1)
def isiD (S : Cells) (T : String) (d : Dt) : Option Bool := (tyName S d).bind fun n => kitB n T
def dIsi (T : String) (Te : TE2) : TE2 := fun x ds S Q => Te x ds S fun d S1 => ∃ b, isiD S1 T d = some b ∧ Q (.bl b) S1
theorem e_isi {T : String} {y : Str} {p q : Pos} (he : E2 X W e Te) (hm : X.mg "isinstance" = none) (hT : X.mg y = none) (hv : bootBuiltins y = some (.type T)) (hg : Gl X "isinstance" := by rfl) (hg2 : Gl X y := by rfl) (hn : y ≠ "__name__" := by decide) (hd : (y == ("__debug__" : Str)) = false := by decide)
    (he1 : starEach (e :: [.Name y q]) X.env = (false, eval e X.env) :: starEach [.Name y q] X.env := by rfl) (he2 : starEach [.Name y q] X.env = (false, eval (.Name y q) X.env) :: starEach [] X.env := by rfl) (hpl : (backTo pos (starEach [.Name y q] X.env)).any (·.1) = false := by rfl) :
    E2 X W (.Call (.Name "isinstance" p) [e, .Name y q] [] pos) (dIsi T Te) := ⟨fun x ds S Q Q' h p => he.mono x ds S _ _ (fun d S1 ⟨b, e, q⟩ => ⟨b, e, h _ _ q⟩) p, by
  obtain ⟨t, pt, rt⟩ := he.run
  refine ⟨_, pe_callB call_isi hg hm (by decide +kernel) (pa_cons pt (pa_cons (pe_bltn (v := .ty T) hg2 hT hv rfl hn hd) pa_nil he2) he1) (by decide) (by decide) he1 hpl, fun x ds S σ H Q h q => ?_⟩
  refine rt x ds S σ H _ h (he.mono x ds S _ _ (fun d S1 p1 v H1 s1 r1 => ?_) q)
  obtain ⟨b, e1, q1⟩ := p1
  unfold isiD at e1
  cases q2 : tyName S1 d with
  | none => rw [q2] at e1; cases e1
  | some n =>
    rw [q2] at e1
    exact ⟨v, .ty T, .type n, .type T, b, rfl, .ty T, tyName_ok s1.wd r1 q2, kit_ty e1, q1 _ _ s1 rfl⟩⟩
/-! ### methods -/
structure M2 (X : Cx) (T id : String) (q : Dt → List Dt → Cells → QE → Prop) : Prop where
  mono : ∀ d es S Q Q', (∀ d S', Q d S' → Q' d S') → q d es S Q → q d es S Q'
  run : ∃ r, MtR X id r ∧ ∀ d es v us S H Q, Wd X.K S H → Rp X.K (wo S H) d v → Rps X.K (wo S H) es us → q d es S (up X.K S H Q) → r v us H Q
def isLst (S : Cells) (d : Dt) : Prop := ∃ ds, asL S d = some ds
def dMt (q : Dt → List Dt → Cells → QE → Prop) (T : TE2) (TA : TA2) : TE2 := fun x ds S Q => T x ds S fun d S1 => isLst S1 d ∧ TA x ds S1 fun es S2 => q d es S2 Q
theorem e_mt {q : Dt → List Dt → Cells → QE → Prop} {o : Expr} {To : TE2} {name : Str} {apos cpos : Pos} {id : String} (slot : Slot "list" name id) (hty : typeOf (.builtin id) = pure (.type "method_descriptor")) (hm : M2 X "list" id q) (ho : E2 X W o To) (ha : A2 X W (e :: es) TA)
    (hbase : attributeBase o name X.env (eval o X.env) = eval o X.env := by rfl)
    (hfew : ((backTo cpos (starEach (e :: es) X.env)).all (fun x => !x.1) && (backToKw cpos (keywordEach [] X.env)).all (fun x => x.1.isSome)
      && decide ((e :: es).length + ([] : List Keyword).length + (if ([] : List Keyword).isEmpty then 0 else 1) < 30)) = true := by rfl)
    (hline : (apos.endLine == cpos.line) = true := by rfl) (hs : starEach (e :: es) X.env = (false, eval e X.env) :: starEach es X.env := by rfl) (hplain : (backTo cpos (starEach es X.env)).any (·.1) = false := by rfl) :
    E2 X W (.Call (.Attribute o name apos) (e :: es) [] cpos) (dMt q To TA) := ⟨fun x ds S Q Q' h p => ho.mono x ds S _ _ (fun d S1 ⟨l, p1⟩ => ⟨l, ha.mono x ds S1 _ _ (fun es S2 p2 => hm.mono _ _ _ _ _ h p2) p1⟩) p, by
  obtain ⟨t, pt, rt⟩ := ho.run
  obtain ⟨u, pu, ru⟩ := ha.run
  obtain ⟨r, pr, rr⟩ := hm.run
  refine ⟨_, pe_bm PySem.F.plainAttrs_list slot hty pr pt pu hbase hfew hline hs hplain, fun x ds S σ H Q h p => ?_⟩
  refine rt x ds S σ H _ h (ho.mono x ds S _ _ (fun d S1 ⟨⟨fs, hl⟩, p1⟩ v H1 s1 r1 => ?_) p)
  obtain ⟨a, xs, e1, h1, _⟩ := asL_ok s1.wd r1 hl
  subst e1
  refine ⟨.inl ⟨rfl, xs, h1⟩, ?_⟩
  refine ru x ds S1 σ H1 _ (h.step s1) (ha.mono x ds S1 _ _ (fun es S2 p2 us H2 s2 r2 => ?_) p1)
  exact rr d es _ us S2 H2 Q s2.wd (r1.mono s2.same) r2 (hm.mono _ _ _ _ _ (fun z S3 q3 => q3.step (s1.trans s2)) p2)⟩
theorem e_mt0 {q : Dt → List Dt → Cells → QE → Prop} {o : Expr} {To : TE2} {name : Str} {apos cpos : Pos} {id : String} (slot : Slot "list" name id) (hty : typeOf (.builtin id) = pure (.type "method_descriptor")) (hm : M2 X "list" id q) (ho : E2 X W o To)
    (hbase : attributeBase o name X.env (eval o X.env) = eval o X.env := by rfl) (hline : (apos.endLine == cpos.line) = true := by rfl) :
    E2 X W (.Call (.Attribute o name apos) [] [] cpos) (dMt q To dNil) := ⟨fun x ds S Q Q' h p => ho.mono x ds S _ _ (fun d S1 ⟨l, p1⟩ => ⟨l, hm.mono _ _ _ _ _ h p1⟩) p, by
  obtain ⟨t, pt, rt⟩ := ho.run
  obtain ⟨r, pr, rr⟩ := hm.run
  refine ⟨_, pe_bm0 PySem.F.plainAttrs_list slot hty pr pt hbase hline, fun x ds S σ H Q h p => ?_⟩
  refine rt x ds S σ H _ h (ho.mono x ds S _ _ (fun d S1 ⟨⟨fs, hl⟩, p1⟩ v H1 s1 r1 => ?_) p)
  obtain ⟨a, xs, e1, h1, _⟩ := asL_ok s1.wd r1 hl
  subst e1
  refine ⟨.inl ⟨rfl, xs, h1⟩, ?_⟩
  exact rr d [] _ [] S1 H1 Q s1.wd r1 rfl (hm.mono _ _ _ _ _ (fun z S3 q3 => q3.step s1) p1)⟩
def qAppend : Dt → List Dt → Cells → QE → Prop := fun d es S Q => ∃ a ds z, d = .ref a ∧ es = [z] ∧ S a = some (.lst ds) ∧ ds.length < 100000 ∧ Q .non (S.put a (.lst (ds ++ [z])))
theorem m_append : M2 X "list" "list.append" qAppend := ⟨fun d es S Q Q' hq ⟨a, ds, z, h1, h2, h3, h4, q⟩ => ⟨a, ds, z, h1, h2, h3, h4, hq _ _ q⟩, _, mt_append, fun d es v us S H Q w r rs ⟨a, ds, z, h1, h2, h3, h4, q⟩ => by
  subst h1 h2
  obtain ⟨u, e1, r1⟩ := rps1 rs
  obtain ⟨xs, k1, k2⟩ := w a _ h3
  have hS : S a ≠ none ∨ H a = none := .inl (by rw [h3]; intro z; cases z)
  refine ⟨a, xs, u, r, e1, k1, by rw [k2.length]; exact Nat.lt_of_lt_of_le h4 (by decide), q _ _ ⟨?_, put_wd w hS ⟨_, upd_same, k2.app (Rps.one r1)⟩⟩ rfl⟩
  rw [put_wo _ hS]
  exact Same.refl _⟩
def qPop : Dt → List Dt → Cells → QE → Prop := fun d es S Q => ∃ a ds z, d = .ref a ∧ es = [] ∧ S a = some (.lst ds) ∧ ds[ds.length - 1]? = some z ∧ Q z (S.put a (.lst ds.dropLast))
theorem Rps.dropLast {K : PySem.W.Frag} {I : Hp} {ds : List Dt} {xs : List V} (h : Rps K I ds xs) : Rps K I ds.dropLast xs.dropLast := by
  rw [List.dropLast_eq_take, List.dropLast_eq_take, h.length]
  exact Rps.take _ h
theorem m_pop : M2 X "list" "list.pop" qPop := ⟨fun d es S Q Q' hq ⟨a, ds, z, h1, h2, h3, h4, q⟩ => ⟨a, ds, z, h1, h2, h3, h4, hq _ _ q⟩, _, mt_pop, fun d es v us S H Q w r rs ⟨a, ds, z, h1, h2, h3, h4, q⟩ => by
  subst h1 h2
  cases (show us = [] from rs)
  obtain ⟨xs, k1, k2⟩ := w a _ h3
  have hS : S a ≠ none ∨ H a = none := .inl (by rw [h3]; intro z; cases z)
  rw [← k2.length] at h4
  have hwo := put_wo (H := H) (o := .lst xs.dropLast) (.lst ds.dropLast) hS
  obtain ⟨u, g1, g2⟩ := k2.get (i := xs.length - 1) h4
  refine ⟨a, xs, u, r, rfl, k1, g1, q _ _ ⟨?_, put_wd w hS ⟨_, upd_same, k2.dropLast⟩⟩ ?_⟩
  · rw [hwo]
    exact Same.refl _
  · rw [hwo]
    exact g2⟩
end
end Sc

namespace Sc
open PySem PySem.Spec PyProof.Rows L2
section
variable {X : Cx} {W : WX} {a b c e : Expr} {es : List Expr} {Ta Tb Tc Te : TE2} {Tt Tu : TT2} {TA : TA2} {pos : Pos} {st : Stmt} {rest body : List Stmt} {T U : TS2}
theorem Ends2.Le.withN {D D' : Ends2} (h : D.Le D') {n n' : Ds → Cells → Prop} (hn : ∀ ds S, n ds S → n' ds S) : Ends2.Le { D with nx := n } { D' with nx := n' } := ⟨hn, h.rt, h.bk, h.ct⟩
def dNext : TS2 := fun _ D ds S => D.nx ds S
def dSeq (T U : TS2) : TS2 := fun x D ds S => T x { D with nx := fun ds' S' => U x D ds' S' } ds S
theorem b_nil : B2 X W [] dNext := ⟨fun x ds S D D' h q => h.nx _ _ q, _, pss_nil, fun x ds S σ H D h q => q σ H h.refl h.rs⟩
theorem b_cons (h1 : S2 X W st T) (h2 : B2 X W rest U) : B2 X W (st :: rest) (dSeq T U) := ⟨fun x ds S D D' h q => h1.mono x ds S _ _ (h.withN fun ds' S' q' => h2.mono x ds' S' _ _ h q') q, by
  obtain ⟨t, p, r⟩ := h1.run
  obtain ⟨u, p', r'⟩ := h2.run
  refine ⟨_, pss_cons p p', fun x ds S σ H D h q => ?_⟩
  refine r x ds S σ H { D with nx := u D } h (h1.mono x ds S { upD X.K S H D with nx := fun ds' S' => U x (upD X.K S H D) ds' S' } _ ⟨fun ds' S' q' σ' H' s' rs' => ?_, fun _ _ q => q, fun _ _ q => q, fun _ _ q => q⟩ q)
  have h' := h.step s'
  exact r' x ds' S' σ' H' D ⟨rs', s'.wd, h'.xe⟩ (h2.mono x ds' S' _ _ (upD.step s') q')⟩
theorem b_one (h1 : S2 X W st T) : B2 X W [st] T := ⟨h1.mono, by
  obtain ⟨t, p, r⟩ := h1.run
  exact ⟨_, pss_one p, r⟩⟩
/-- code that the proof never comes to -/
def dNever : TS2 := fun _ _ _ _ => False
theorem s_never : S2 X W st dNever := ⟨fun _ _ _ _ _ _ q => q.elim, _, ps_never, fun _ _ _ _ _ _ _ q => q.elim⟩
theorem b_never {sts : List Stmt} : B2 X W sts dNever := ⟨fun _ _ _ _ _ _ q => q.elim, _, pss_never, fun _ _ _ _ _ _ _ q => q.elim⟩
theorem s_pass : S2 X W (.Pass pos) dNext := ⟨fun x ds S D D' h q => h.nx _ _ q, _, ps_pass, fun x ds S σ H D h q => q σ H h.refl h.rs⟩
def dDrop (Te : TE2) : TS2 := fun x D ds S => Te x ds S fun _ S1 => D.nx ds S1
theorem s_expr (he : E2 X W e Te) (hs : swapsWith e none pos.line X.env = pure false := by rfl) : S2 X W (.Expr e pos) (dDrop Te) := ⟨fun x ds S D D' h q => he.mono x ds S _ _ (fun _ S1 q => h.nx _ _ q) q, by
  obtain ⟨t, p, r⟩ := he.run
  exact ⟨_, ps_expr p hs, fun x ds S σ H D h q => r x ds S σ H _ h (he.mono x ds S _ _ (fun _ S1 q v H1 s1 r1 => q σ H1 s1 (h.rs.mono s1.same)) q)⟩⟩
def dRet (Te : TE2) : TS2 := fun x D ds S => Te x ds S D.rt
theorem s_ret (he : E2 X W e Te) : S2 X W (.Return (some e) pos) (dRet Te) := ⟨fun x ds S D D' h q => he.mono x ds S _ _ h.rt q, by
  obtain ⟨t, p, r⟩ := he.run
  exact ⟨_, ps_ret p, fun x ds S σ H D h q => r x ds S σ H _ h q⟩⟩
def dIfS (Tt : TT2) (T U : TS2) : TS2 := fun x D ds S => Tt x ds S fun k S1 => if k = true then T x D ds S1 else U x D ds S1
theorem s_if {pa pb : List Stmt} (hc : T2 X W c Tt) (ha : B2 X W pa T) (hb : B2 X W pb U) : S2 X W (.If c pa pb pos) (dIfS Tt T U) := ⟨fun x ds S D D' h q => hc.mono x ds S _ _ (fun k S1 q => ite_mono q (fun q => ha.mono x ds S1 _ _ h q) (fun q => hb.mono x ds S1 _ _ h q)) q, by
  obtain ⟨tc, pc, rc⟩ := hc.run
  obtain ⟨ta, pa, ra⟩ := ha.run
  obtain ⟨tb, pb, rb⟩ := hb.run
  refine ⟨_, ps_if pc pa pb, fun x ds S σ H D h q => rc x ds S σ H _ h (hc.mono x ds S _ _ (fun k S1 q H1 s1 => ?_) q)⟩
  exact ite_mono q (fun q => ra x ds S1 σ H1 D (h.step s1) (ha.mono x ds S1 _ _ (upD.step s1) q)) (fun q => rb x ds S1 σ H1 D (h.step s1) (hb.mono x ds S1 _ _ (upD.step s1) q))⟩
/-! ### stores -/
def dSet (i : Nat) (Te : TE2) : TS2 := fun x D ds S => Te x ds S fun d S1 => D.nx (ds.set i (some d)) S1
theorem s_set (i : Nat) {y : Str} {p : Pos} (hN : X.N.Nodup) (he : E2 X W e Te) (hi : X.N[i]? = some y := by rfl) (hx : Loc X.env.scope y := by first | exact Or.inl rfl | exact Or.inr rfl) (hs : swapsWith e (some (.Name y p)) pos.line X.env = pure false := by rfl)
    (hf : X.fn y = true ∨ X.env.scope.names.lookup y = some .local := by first | exact .inl rfl | exact .inr rfl) : S2 X W (.Assign [.Name y p] e pos) (dSet i Te) := ⟨fun x ds S D D' h q => he.mono x ds S _ _ (fun _ S1 q => h.nx _ _ q) q, by
  obtain ⟨t, p, r⟩ := he.run
  exact ⟨_, ps_set hN hi hx p hs hf, fun x ds S σ H D h q => r x ds S σ H _ h (he.mono x ds S _ _ (fun d S1 q v H1 s1 r1 => q _ H1 s1 ((h.rs.mono s1.same).set r1)) q)⟩⟩
/-- x op= e -/
def dAug (i : Nat) (q : QO) (Te : TE2) : TS2 := fun x D ds S => ∃ d, ds[i]? = some (some d) ∧ Te x ds S fun e S1 => q d e S1 fun z S2 => D.nx (ds.set i (some z)) S2
theorem s_aug (i : Nat) {y : Str} {p : Pos} {op : Operator} {q : QO} (hN : X.N.Nodup) (ho : O2 X (inplaceOp op) q) (he : E2 X W e Te) (hi : X.N[i]? = some y := by rfl) (hx : Loc X.env.scope y := by first | exact Or.inl rfl | exact Or.inr rfl)
    (hf : X.fn y = true ∨ X.env.scope.names.lookup y = some .local := by first | exact .inl rfl | exact .inr rfl) : S2 X W (.AugAssign (.Name y p) op e pos) (dAug i q Te) := ⟨fun x ds S D D' h ⟨d, e1, q1⟩ => ⟨d, e1, he.mono x ds S _ _ (fun z S1 q => ho.mono _ _ _ _ _ (fun _ _ q => h.nx _ _ q) q) q1⟩, by
  obtain ⟨t, p, r⟩ := he.run
  obtain ⟨ro, po, rr⟩ := ho.run
  refine ⟨_, ps_aug (ti := ro) hN hi hx p (fun pins s σ H x y v u Q I rx ry q => po pins s σ H x y v u Q I rx ry q) hf, fun x ds S σ H D h ⟨d, e1, q1⟩ => ?_⟩
  obtain ⟨v, k1, k2⟩ := h.rs.2 i d e1
  refine ⟨v, k1, r x ds S σ H _ h (he.mono x ds S _ _ (fun z S1 q u H1 s1 r1 => ?_) q1)⟩
  exact rr d z v u S1 H1 _ s1.wd (k2.mono s1.same) r1 (ho.mono _ _ _ _ _ (fun f S2 q2 v2 H2 s2 r2 => q2 _ H2 (s1.trans s2) ((h.rs.mono (s1.trans s2).same).set r2)) q)⟩
theorem o_iadd : O2 X (inplaceOp .Add) (qI0 fun i j => .int (i + j)) := o_I0 iop_add
theorem o_isub : O2 X (inplaceOp .Sub) (qI0 fun i j => .int (i - j)) := o_I0 iop_sub
theorem o_imul : O2 X (inplaceOp .Mult) (qI CMul fun i j => .int (i * j)) := o_I iop_mul
/-- a, b = e1, e2 -/
def dPar (i j : Nat) (T : TA2) : TS2 := fun x D ds S => T x ds S fun es S1 => ∃ d e, es = [d, e] ∧ D.nx ((ds.set i (some d)).set j (some e)) S1
theorem s_par (i j : Nat) {y z : Str} {py pz pt : Pos} {kt k2 pt2} (hc : X.calm = true) (hN : X.N.Nodup) (ha : A2 X W [a, b] TA) (hi : X.N[i]? = some y := by rfl) (hj : X.N[j]? = some z := by rfl) (hij : i ≠ j := by decide)
    (hy : X.env.scope.names.lookup y = some .local := by rfl) (hz : X.env.scope.names.lookup z = some .local := by rfl)
    (hw : swappedStores [.Tuple [.Name y py, .Name z pz] kt pt] (.Tuple [a, b] k2 pt2) X.env = pure (some [y, z]) := by rfl)
    (hs : swapsWithSole [.Tuple [.Name y py, .Name z pz] kt pt] (.Tuple [a, b] k2 pt2) pos.line X.env = pure false := by rfl) :
    S2 X W (.Assign [.Tuple [.Name y py, .Name z pz] kt pt] (.Tuple [a, b] k2 pt2) pos) (dPar i j TA) := ⟨fun x ds S D D' h q => ha.mono x ds S _ _ (fun _ S1 ⟨d, e, e1, q⟩ => ⟨d, e, e1, h.nx _ _ q⟩) q, by
  obtain ⟨t, p, r⟩ := ha.run
  refine ⟨_, ps_par hc hN hi hj hij hy hz p hw hs, fun x ds S σ H D h q => r x ds S σ H _ h (ha.mono x ds S _ _ (fun es S1 ⟨d, e, e1, q⟩ vs H1 s1 r1 => ?_) q)⟩
  subst e1
  obtain ⟨u, v, e2, r2, r3⟩ := rps2 r1
  exact ⟨u, v, e2, q _ H1 s1 (((h.rs.mono s1.same).set r2).set r3)⟩⟩
def dPar3 (i j l : Nat) (T : TA2) : TS2 := fun x D ds S => T x ds S fun es S1 => ∃ d e f, es = [d, e, f] ∧ D.nx (((ds.set i (some d)).set j (some e)).set l (some f)) S1
theorem s_par3 (i j l : Nat) {y z u : Str} {py pz pu pt : Pos} {kt k2 pt2} (hc : X.calm = true) (hN : X.N.Nodup) (ha : A2 X W [a, b, c] TA) (hi : X.N[i]? = some y := by rfl) (hj : X.N[j]? = some z := by rfl) (hl : X.N[l]? = some u := by rfl) (hij : i ≠ j := by decide) (hil : i ≠ l := by decide) (hjl : j ≠ l := by decide)
    (hy : X.env.scope.names.lookup y = some .local := by rfl) (hz : X.env.scope.names.lookup z = some .local := by rfl) (hu : X.env.scope.names.lookup u = some .local := by rfl)
    (hw : swappedStores [.Tuple [.Name y py, .Name z pz, .Name u pu] kt pt] (.Tuple [a, b, c] k2 pt2) X.env = pure (some [y, z, u]) := by rfl)
    (hs : swapsWithSole [.Tuple [.Name y py, .Name z pz, .Name u pu] kt pt] (.Tuple [a, b, c] k2 pt2) pos.line X.env = pure false := by rfl) :
    S2 X W (.Assign [.Tuple [.Name y py, .Name z pz, .Name u pu] kt pt] (.Tuple [a, b, c] k2 pt2) pos) (dPar3 i j l TA) := ⟨fun x ds S D D' h q => ha.mono x ds S _ _ (fun _ S1 ⟨d, e, f, e1, q⟩ => ⟨d, e, f, e1, h.nx _ _ q⟩) q, by
  obtain ⟨t, p, r⟩ := ha.run
  refine ⟨_, ps_par3 hc hN hi hj hl hij hil hjl hy hz hu p hw hs, fun x ds S σ H D h q => r x ds S σ H _ h (ha.mono x ds S _ _ (fun es S1 ⟨d, e, f, e1, q⟩ vs H1 s1 r1 => ?_) q)⟩
  subst e1
  obtain ⟨u1, us, e2, r2, r3⟩ := r1
  obtain ⟨u2, u3, e4, r4, r5⟩ := rps2 r3
  subst e4
  exact ⟨u1, u2, u3, e2, q _ H1 s1 ((((h.rs.mono s1.same).set r2).set r4).set r5)⟩⟩
/-! ### targets -/
abbrev TG2 := Dt → Ds → Cells → (Ds → Cells → Prop) → Prop
structure G2 (X : Cx) (W : WX) (tg : Expr) (T : TG2) : Prop where
  mono : ∀ d ds S Q Q', (∀ d S', Q d S' → Q' d S') → T d ds S Q → T d ds S Q'
  run : ∃ t, PG X tg t ∧ ∀ d v x ds S σ H Q, Here X.K W x ds S σ H → Rp X.K (wo S H) d v → T d ds S (upS X.K S H Q) → t v σ H Q
abbrev TGs2 := List Dt → Ds → Cells → (Ds → Cells → Prop) → Prop
structure Gs2 (X : Cx) (W : WX) (ts : List Expr) (T : TGs2) : Prop where
  mono : ∀ d ds S Q Q', (∀ d S', Q d S' → Q' d S') → T d ds S Q → T d ds S Q'
  run : ∃ t, PGs X ts t ∧ ∀ d v x ds S σ H Q, Here X.K W x ds S σ H → Rps X.K (wo S H) d v → T d ds S (upS X.K S H Q) → t v σ H Q
def kName (i : Nat) : TG2 := fun d ds S Q => Q (ds.set i (some d)) S
theorem g_name (i : Nat) {y : Str} (hN : X.N.Nodup) (hi : X.N[i]? = some y := by rfl) (hx : Loc X.env.scope y := by first | exact Or.inl rfl | exact Or.inr rfl) (hf : X.fn y = true ∨ X.env.scope.names.lookup y = some .local := by first | exact .inl rfl | exact .inr rfl) :
    G2 X W (.Name y pos) (kName i) := ⟨fun d ds S Q Q' h q => h _ _ q, _, pg_name hN hi hx hf, fun d v x ds S σ H Q h r q => q _ H h.refl (h.rs.set r)⟩
def kNil : TGs2 := fun es ds S Q => es = [] ∧ Q ds S
def kCons (T : TG2) (U : TGs2) : TGs2 := fun es ds S Q => ∃ d r, es = d :: r ∧ T d ds S fun ds1 S1 => U r ds1 S1 Q
theorem gs_nil : Gs2 X W [] kNil := ⟨fun d ds S Q Q' h ⟨e, q⟩ => ⟨e, h _ _ q⟩, _, pgs_nil, fun d v x ds S σ H Q h r ⟨e, q⟩ => by
  subst e
  exact ⟨r, q _ H h.refl h.rs⟩⟩
theorem gs_cons {T : TG2} {U : TGs2} (h1 : G2 X W e T) (h2 : Gs2 X W es U) (hs : (assignEach (e :: es) X.env).map (·.2) = assign e X.env :: (assignEach es X.env).map (·.2) := by rfl) : Gs2 X W (e :: es) (kCons T U) := ⟨fun d ds S Q Q' h ⟨d1, r, e, q⟩ =>
    ⟨d1, r, e, h1.mono _ _ _ _ _ (fun ds1 S1 q1 => h2.mono _ _ _ _ _ h q1) q⟩, by
  obtain ⟨t, p, r⟩ := h1.run
  obtain ⟨u, p', r'⟩ := h2.run
  refine ⟨_, pgs_cons p p' hs, fun d v x ds S σ H Q h rs ⟨d1, r1, e, q⟩ => ?_⟩
  subst e
  obtain ⟨v1, vs, e1, k1, k2⟩ := rs
  refine ⟨v1, vs, e1, r d1 v1 x ds S σ H _ h k1 (h1.mono _ _ _ _ _ (fun ds1 S1 q1 σ1 H1 s1 rs1 => ?_) q)⟩
  exact r' r1 vs x ds1 S1 σ1 H1 Q ⟨rs1, s1.wd, (h.step s1).xe⟩ (k2.mono s1.same) (h2.mono _ _ _ _ _ (fun ds2 S2 q2 => q2.step s1) q1)⟩
def kTup (n : Nat) (T : TGs2) : TG2 := fun d ds S Q => ∃ es, asT d = some es ∧ es.length = n ∧ T es ds S Q
theorem g_tup {k n : Nat} {T : TGs2} (hc : X.calm = true) (h : Gs2 X W es T) (hn : (assignEach es X.env).length = n := by rfl) (hst : (assignEach es X.env).findIdx? (·.1) = none := by rfl) : G2 X W (.Tuple es k pos) (kTup n T) := ⟨fun d ds S Q Q' hq ⟨fs, e, l, q⟩ => ⟨fs, e, l, h.mono _ _ _ _ _ hq q⟩, by
  obtain ⟨t, p, r⟩ := h.run
  refine ⟨_, pg_tup hc p hn hst, fun d v x ds S σ H Q hh rv ⟨fs, e, l, q⟩ => ?_⟩
  obtain ⟨a, xs, e1, k1, k2⟩ := asT_ok rv e
  exact ⟨a, xs, e1, k1, by rw [k2.length]; exact l, r fs xs x ds S σ H Q hh k2 q⟩⟩
/-- target = value -/
def dAsg (Te : TE2) (G : TG2) : TS2 := fun x D ds S => Te x ds S fun d S1 => G d ds S1 D.nx
theorem s_asg {tg : Expr} {G : TG2} (he : E2 X W e Te) (hg : G2 X W tg G) (hs : swapsWithSole [tg] e pos.line X.env = pure false := by rfl) (hw : swappedStores [tg] e X.env = pure none := by rfl)
    (h1 : (assignEach [tg] X.env).map (·.2) = [assign tg X.env] := by rfl) : S2 X W (.Assign [tg] e pos) (dAsg Te G) := ⟨fun x ds S D D' h q => he.mono x ds S _ _ (fun d S1 q => hg.mono _ _ _ _ _ h.nx q) q, by
  obtain ⟨t, p, r⟩ := he.run
  obtain ⟨g, pg, rg⟩ := hg.run
  refine ⟨_, ps_asg p pg hs hw h1, fun x ds S σ H D h q => r x ds S σ H _ h (he.mono x ds S _ _ (fun d S1 q v H1 s1 r1 => ?_) q)⟩
  exact rg d v x ds S1 σ H1 _ (h.step s1) r1 (hg.mono _ _ _ _ _ (fun ds2 S2 q2 => q2.step s1) q)⟩
/-- o[i] = v, o a list that may change -/
def kSub (Ta Tb : TE2) : XK2 → TG2 := fun x d ds S Q => Ta x ds S fun o S1 => Tb x ds S1 fun i S2 => ∃ p k j fs, o = .ref p ∧ i = .int k ∧ S2 p = some (.lst fs) ∧ ixN fs.length k = some j ∧ Q ds (S2.put p (.lst (fs.set j d)))
def dStore (Te Ta Tb : TE2) : TS2 := fun x D ds S => Te x ds S fun d S1 => kSub Ta Tb x d ds S1 D.nx
theorem s_store (he : E2 X W e Te) (ha : E2 X W a Ta) (hb : E2 X W b Tb)
    (hset : ∀ v, assign (.Subscript a b pos) X.env v = (do
      let ov ← holding [v] (eval a X.env)
      let iv ← holding [v, ov] (eval b X.env)
      standAt pos
      holding [v, ov, iv] (setItem ov iv v)
      release [v, ov, iv] []) := by intro _; rfl) {pos2 : Pos}
    (hs : swapsWithSole [.Subscript a b pos] e pos2.line X.env = pure false := by rfl) (hw : swappedStores [.Subscript a b pos] e X.env = pure none := by rfl)
    (h1 : (assignEach [.Subscript a b pos] X.env).map (·.2) = [assign (.Subscript a b pos) X.env] := by rfl) : S2 X W (.Assign [.Subscript a b pos] e pos2) (dStore Te Ta Tb) := ⟨fun x ds S D D' h q => he.mono x ds S _ _ (fun d S1 q =>
    ha.mono x ds S1 _ _ (fun o S2 q => hb.mono x ds S2 _ _ (fun i S3 ⟨p, k, j, fs, e1, e2, e3, e4, q⟩ => ⟨p, k, j, fs, e1, e2, e3, e4, h.nx _ _ q⟩) q) q) q, by
  obtain ⟨te, pe, re⟩ := he.run
  obtain ⟨ta, pa, ra⟩ := ha.run
  obtain ⟨tb, pb, rb⟩ := hb.run
  refine ⟨_, ps_asg pe (pg_sub pa pb set_list hset) hs hw h1, fun x ds S σ H D h q => ?_⟩
  refine re x ds S σ H _ h (he.mono x ds S _ _ (fun d S1 q v H1 s1 r1 => ?_) q)
  refine ra x ds S1 σ H1 _ (h.step s1) (ha.mono x ds S1 _ _ (fun o S2 q ov H2 s2 r2 => ?_) q)
  refine rb x ds S2 σ H2 _ (h.step (s1.trans s2)) (hb.mono x ds S2 _ _ (fun i S3 ⟨p, k, j, fs, e1, e2, e3, e4, q5⟩ iv H3 s3 r3 => ?_) q)
  subst e1 e2
  obtain ⟨xs, k1, k2⟩ := s3.wd p _ e3
  have hS : S3 p ≠ none ∨ H3 p = none := .inl (by rw [e3]; intro z; cases z)
  have rd := r1.mono (s2.trans s3).same
  refine ⟨p, xs, k, j, r2, r3, k1, by rw [k2.length]; exact e4, ?_⟩
  have w0 := put_wo (H := H3) (o := .lst (xs.set j v)) (.lst (fs.set j d)) hS
  have s4 : Step X.K S3 H3 (S3.put p (.lst (fs.set j d))) (upd H3 p (.lst (xs.set j v))) := ⟨by rw [w0]; exact Same.refl _, put_wd s3.wd hS ⟨_, upd_same, k2.set j rd⟩⟩
  exact q5 σ _ (s1.trans (s2.trans (s3.trans s4))) (h.rs.mono (s1.trans (s2.trans (s3.trans s4))).same)⟩
/-! ### what is walked -/
abbrev TI2 := XK2 → Ds → Cells → (List Dt → Cells → Prop) → Prop
/-- the iterator J gives the items, in every later world -/
def Yields (K : PySem.W.Frag) (J : It) (items : List Dt) (S1 : Cells) (H1 : Hp) : Prop := ∀ S H, Step K S1 H1 S H →
  (∀ i, i < items.length → J.go i H) ∧ (∀ i, items.length ≤ i → J.stop i H) ∧ ∀ i v H' d, J.yld i H v H' → items[i]? = some d → Step K S H S H' ∧ Rp K (wo S H') d v
structure J2 (X : Cx) (W : WX) (tg iter : Expr) (T : TI2) : Prop where
  mono : ∀ x ds S Q Q', (∀ d S', Q d S' → Q' d S') → T x ds S Q → T x ds S Q'
  run : ∃ wi, PI X tg iter wi ∧ ∀ x ds S σ H R, Here X.K W x ds S σ H → T x ds S (fun items S1 => ∀ H1 J, Step X.K S H S1 H1 → Yields X.K J items S1 H1 → R J H1) → wi σ H R
/-- a tuple, a list that does not change -/
def dIt (Te : TE2) : TI2 := fun x ds S Q => Te x ds S fun d S1 => ∃ es, d = .tup es ∧ Q es S1
def dItL (Te : TE2) : TI2 := fun x ds S Q => Te x ds S fun d S1 => ∃ es, d = .lst es ∧ Q es S1
theorem j_tup {tg : Expr} (he : E2 X W e Te) : J2 X W tg e (dIt Te) := ⟨fun x ds S Q Q' h q => he.mono x ds S _ _ (fun d S1 ⟨es, e, q⟩ => ⟨es, e, h _ _ q⟩) q, by
  obtain ⟨t, p, r⟩ := he.run
  refine ⟨_, pi_tup p, fun x ds S σ H R h q => r x ds S σ H _ h (he.mono x ds S _ _ (fun d S1 ⟨es, e, q⟩ v H1 s1 r1 => ?_) q)⟩
  subst e
  obtain ⟨a, xs, e1, k1, k2⟩ := r1
  have g : SqT X.K H1 a xs := sqT_mono wo_le k1
  refine ⟨a, e1, ⟨xs, g⟩, q H1 _ s1 fun S2 H2 s2 => ?_⟩
  have g2 : SqT X.K H2 a xs := sqT_mono wo_le (sqT_mono s2.same k1)
  have kk := k2.mono s2.same
  refine ⟨fun i hi => ?_, fun i hi => ⟨xs, g2, by rw [k2.length]; exact hi⟩, fun i v H' d hy hd => ?_⟩
  · have hi' : i < xs.length := by rw [k2.length]; exact hi
    exact ⟨xs, xs[i], g2, List.getElem?_eq_getElem hi'⟩
  · obtain ⟨e2, hv⟩ := hy
    subst e2
    obtain ⟨u, k3, k4⟩ := kk.get hd
    have := (hv xs g2).symm.trans k3
    cases this
    exact ⟨⟨Same.refl _, s2.wd⟩, k4⟩⟩
theorem j_lst {tg : Expr} (he : E2 X W e Te) : J2 X W tg e (dItL Te) := ⟨fun x ds S Q Q' h q => he.mono x ds S _ _ (fun d S1 ⟨es, e, q⟩ => ⟨es, e, h _ _ q⟩) q, by
  obtain ⟨t, p, r⟩ := he.run
  refine ⟨_, pi_list p, fun x ds S σ H R h q => r x ds S σ H _ h (he.mono x ds S _ _ (fun d S1 ⟨es, e, q⟩ v H1 s1 r1 => ?_) q)⟩
  subst e
  obtain ⟨a, xs, e1, k1, k2⟩ := r1
  have g : SqL X.K H1 a xs := sqL_mono wo_le k1
  refine ⟨a, e1, ⟨xs, g⟩, q H1 _ s1 fun S2 H2 s2 => ?_⟩
  have g2 : SqL X.K H2 a xs := sqL_mono wo_le (sqL_mono s2.same k1)
  have kk := k2.mono s2.same
  refine ⟨fun i hi => ?_, fun i hi => ⟨xs, g2, by rw [k2.length]; exact hi⟩, fun i v H' d hy hd => ?_⟩
  · have hi' : i < xs.length := by rw [k2.length]; exact hi
    exact ⟨xs, xs[i], g2, List.getElem?_eq_getElem hi'⟩
  · obtain ⟨e2, hv⟩ := hy
    subst e2
    obtain ⟨u, k3, k4⟩ := kk.get hd
    have := (hv xs g2).symm.trans k3
    cases this
    exact ⟨⟨Same.refl _, s2.wd⟩, k4⟩⟩
/-- range(n), range(a, b) -/
def rng (lo : Int) (n : Nat) : List Dt := (List.range n).map fun (i : Nat) => .int (lo + (i : Int))
theorem rng_len {lo : Int} {n : Nat} : (rng lo n).length = n := by simp [rng]
theorem rng_get {lo : Int} {n i : Nat} {d : Dt} (h : (rng lo n)[i]? = some d) : d = .int (lo + (i : Int)) := by
  have hi : i < n := by
    have := (List.getElem?_eq_some_iff.mp h).1
    rw [rng_len] at this
    exact this
  unfold rng at h
  rw [List.getElem?_map, List.getElem?_range hi] at h
  exact (Option.some.inj h).symm
theorem yields_rng {K : PySem.W.Frag} {lo : Int} {n : Nat} {S1 : Cells} {H1 : Hp} : Yields K (Itr lo n) (rng lo n) S1 H1 := fun S H s => by
  refine ⟨fun i hi => by rw [rng_len] at hi; exact hi, fun i hi => by rw [rng_len] at hi; exact hi, fun i v H' d hy hd => ?_⟩
  obtain ⟨e, hv⟩ := hy
  subst e
  rw [rng_get hd]
  exact ⟨⟨Same.refl _, s.wd⟩, hv⟩
def dRng1 (Te : TE2) : TI2 := fun x ds S Q => Te x ds S fun d S1 => ∃ n, d = .int n ∧ -1000000000000000000 ≤ n ∧ n < 1000000000000000000 ∧ Q (rng 0 n.toNat) S1
theorem j_range1 {tg : Expr} {p : Pos} (he : E2 X W e Te) (hm : X.mg "range" = none) (hg : Gl X "range" := by rfl) (hs : starEach [e] X.env = [(false, eval e X.env)] := by rfl) : J2 X W tg (.Call (.Name "range" p) [e] [] pos) (dRng1 Te) := ⟨fun x ds S Q Q' h q =>
    he.mono x ds S _ _ (fun d S1 ⟨n, e, h1, h2, q⟩ => ⟨n, e, h1, h2, h _ _ q⟩) q, by
  obtain ⟨t, p, r⟩ := he.run
  refine ⟨_, pi_range1 hg hm (pa_cons p pa_nil (by rw [hs]; rfl)) hs, fun x ds S σ H R h q => r x ds S σ H _ h (he.mono x ds S _ _ (fun d S1 ⟨n, e, h1, h2, q⟩ v H1 s1 r1 => ?_) q)⟩
  subst e
  cases (show v = _ from r1)
  exact ⟨n, rfl, by omega, by omega, q H1 _ s1 yields_rng⟩⟩
def dRng2 (Ta Tb : TE2) : TI2 := fun x ds S Q => Ta x ds S fun d S1 => Tb x ds S1 fun e S2 => ∃ i j, d = .int i ∧ e = .int j ∧ (-1000000000000000000 ≤ i ∧ i < 1000000000000000000 ∧ -1000000000000000000 ≤ j ∧ j < 1000000000000000000) ∧ Q (rng i (j - i).toNat) S2
theorem j_range2 {tg : Expr} {p : Pos} (ha : E2 X W a Ta) (hb : E2 X W b Tb) (hm : X.mg "range" = none) (hg : Gl X "range" := by rfl) (hs : starEach [a, b] X.env = [(false, eval a X.env), (false, eval b X.env)] := by rfl) (hs2 : starEach [b] X.env = [(false, eval b X.env)] := by rfl) :
    J2 X W tg (.Call (.Name "range" p) [a, b] [] pos) (dRng2 Ta Tb) := ⟨fun x ds S Q Q' h q =>
    ha.mono x ds S _ _ (fun d S1 q => hb.mono x ds S1 _ _ (fun e S2 ⟨i, j, e1, e2, h1, q⟩ => ⟨i, j, e1, e2, h1, h _ _ q⟩) q) q, by
  obtain ⟨t, p, r⟩ := ha.run
  obtain ⟨t', p', r'⟩ := hb.run
  refine ⟨_, pi_range2 hg hm (pa_cons p (pa_cons p' pa_nil (by rw [hs2]; rfl)) (by rw [hs, hs2])) hs hs2, fun x ds S σ H R h q => ?_⟩
  refine r x ds S σ H _ h (ha.mono x ds S _ _ (fun d S1 q v H1 s1 r1 => ?_) q)
  refine r' x ds S1 σ H1 _ (h.step s1) (hb.mono x ds S1 _ _ (fun e S2 ⟨i, j, e1, e2, h1, q5⟩ u H2 s2 r2 => ?_) q)
  subst e1 e2
  cases (show v = _ from r1)
  cases (show u = _ from r2)
  exact ⟨i, j, rfl, by omega, q5 H2 _ (s1.trans s2) yields_rng⟩⟩
/-! ### for -/
def dLoop (G : TG2) (B : TS2) (x : XK2) (D : Ends2) : List Dt → Ds → Cells → Prop
  | [], ds, S => D.nx ds S
  | d :: r, ds, S => G d ds S fun ds1 S1 => B x ⟨dLoop G B x D r, D.rt, D.nx, dLoop G B x D r⟩ ds1 S1
def dFor (I : TI2) (G : TG2) (B : TS2) : TS2 := fun x D ds S => I x ds S fun items S1 => dLoop G B x D items ds S1
theorem dLoop.mono {G : TG2} {B : TS2} (gm : ∀ d ds S Q Q', (∀ d S', Q d S' → Q' d S') → G d ds S Q → G d ds S Q') (bm : ∀ x ds S D D', Ends2.Le D D' → B x D ds S → B x D' ds S) {x : XK2} {D D' : Ends2} (h : D.Le D') :
    ∀ items ds S, dLoop G B x D items ds S → dLoop G B x D' items ds S
  | [], ds, S, q => h.nx _ _ q
  | d :: r, ds, S, q => gm _ _ _ _ _ (fun ds1 S1 q1 => bm _ _ _ ⟨dLoop G B x D r, D.rt, D.nx, dLoop G B x D r⟩ _ ⟨fun ds2 S2 q2 => dLoop.mono gm bm h r ds2 S2 q2, h.rt, h.nx, fun ds2 S2 q2 => dLoop.mono gm bm h r ds2 S2 q2⟩ q1) q
theorem s_for {tg iter : Expr} {I : TI2} {G : TG2} (hp : PassesOwn (model X.prog X.w) X.A X.env X.xe) (hc : X.calm = true) (hi : J2 X W tg iter I) (hg : G2 X W tg G) (hb : B2 X W body T) (hs : ∀ x, foldedSetIterable iter X.env x = pure x := by intro _; rfl) :
    S2 X W (.For tg iter body [] pos) (dFor I G T) := ⟨fun x ds S D D' h q => hi.mono x ds S _ _ (fun items S1 q => dLoop.mono hg.mono hb.mono h items ds S1 q) q, by
  obtain ⟨wi, pi, ri⟩ := hi.run
  obtain ⟨g, pg, rg⟩ := hg.run
  obtain ⟨t, pb, rb⟩ := hb.run
  refine ⟨_, ps_for hp hc pi pg pb hs, fun x ds S σ H D h q => ?_⟩
  refine ri x ds S σ H _ h (hi.mono x ds S _ _ (fun items S1 q H1 J s1 y => ?_) q)
  refine ⟨fun i m σ' H' => ∃ ds' S', Step X.K S1 H1 S' H' ∧ Here X.K W x ds' S' σ' H' ∧ m = items.length - i ∧ i ≤ items.length ∧ dLoop G T x (upD X.K S H D) (items.drop i) ds' S', ⟨items.length, ds, S1, ⟨Same.refl _, s1.wd⟩, h.step s1, rfl, Nat.zero_le _, q⟩, fun i m σ' H' ⟨ds', S', s', h', em, hi, q'⟩ => ?_⟩
  obtain ⟨y1, y2, y3⟩ := y S' H' s'
  by_cases hlt : i < items.length
  · refine .inr ⟨y1 i hlt, fun σ2 H2 => ∃ ds2 S2, Step X.K S1 H1 S2 H2 ∧ Here X.K W x ds2 S2 σ2 H2 ∧ dLoop G T x (upD X.K S H D) (items.drop (i + 1)) ds2 S2, fun σ2 H2 ⟨ds2, S2, s2, h2, q2⟩ => ⟨items.length - (i + 1), by omega, ds2, S2, s2, h2, rfl, hlt, q2⟩, fun v H2 hy => ?_⟩
    obtain ⟨s2, r2⟩ := y3 i v H2 _ hy (List.getElem?_eq_getElem hlt)
    rw [List.drop_eq_getElem_cons hlt] at q'
    have h2 := h'.step s2
    refine rg _ v x ds' S' σ' H2 _ h2 r2 (hg.mono _ _ _ _ _ (fun ds3 S3 q3 σ3 H3 s3 rs3 => ?_) q')
    have s23 := s2.trans s3
    have h3 : Here X.K W x ds3 S3 σ3 H3 := ⟨rs3, s3.wd, (h2.step s3).xe⟩
    refine rb x ds3 S3 σ3 H3 _ h3 (hb.mono _ _ _ _ _ ⟨fun ds4 S4 q4 σ4 H4 s4 rs4 => ?_, fun d S4 q4 => ?_, fun ds4 S4 q4 => ?_, fun ds4 S4 q4 σ4 H4 s4 rs4 => ?_⟩ q3)
    · exact ⟨ds4, S4, (s'.trans s23).trans s4, ⟨rs4, s4.wd, (h3.step s4).xe⟩, q4⟩
    · exact q4.step (s1.trans (s'.trans s23))
    · exact q4.step (s1.trans (s'.trans s23))
    · exact ⟨ds4, S4, (s'.trans s23).trans s4, ⟨rs4, s4.wd, (h3.step s4).xe⟩, q4⟩
  · have e : i = items.length := by omega
    subst e
    rw [List.drop_length] at q'
    exact .inl ⟨y2 _ (Nat.le_refl _), q' σ' H' (s1.trans s') h'.rs⟩⟩
/-! ### while -/
def dWhN (T : TT2) (B : TS2) (x : XK2) (D : Ends2) : Nat → Ds → Cells → Prop
  | 0, _, _ => False
  | n + 1, ds, S => T x ds S fun k S1 => if k = true then B x ⟨dWhN T B x D n, D.rt, D.nx, dWhN T B x D n⟩ ds S1 else D.nx ds S1
def dWhile (T : TT2) (B : TS2) : TS2 := fun x D ds S => ∃ n, dWhN T B x D n ds S
theorem dWhN.mono {T : TT2} {B : TS2} (tm : ∀ x ds S Q Q', (∀ d S', Q d S' → Q' d S') → T x ds S Q → T x ds S Q') (bm : ∀ x ds S D D', Ends2.Le D D' → B x D ds S → B x D' ds S) {x : XK2} {D D' : Ends2} (h : D.Le D') :
    ∀ n ds S, dWhN T B x D n ds S → dWhN T B x D' n ds S
  | 0, ds, S, q => q
  | n + 1, ds, S, q => tm _ _ _ _ _ (fun k S1 q1 => ite_mono q1 (fun q1 => bm _ _ _ ⟨dWhN T B x D n, D.rt, D.nx, dWhN T B x D n⟩ _ ⟨fun ds2 S2 q2 => dWhN.mono tm bm h n ds2 S2 q2, h.rt, h.nx, fun ds2 S2 q2 => dWhN.mono tm bm h n ds2 S2 q2⟩ q1) (fun q1 => h.nx _ _ q1)) q
theorem s_while (hp : PassesOwn (model X.prog X.w) X.A X.env X.xe) (hc : T2 X W c Tt) (hb : B2 X W body T) : S2 X W (.While c body [] pos) (dWhile Tt T) := ⟨fun x ds S D D' h ⟨n, q⟩ => ⟨n, dWhN.mono hc.mono hb.mono h n ds S q⟩, by
  obtain ⟨tc, pc, rc⟩ := hc.run
  obtain ⟨t, pb, rb⟩ := hb.run
  refine ⟨_, ps_while hp pc pb, fun x ds S σ H D h ⟨n, q⟩ => ?_⟩
  refine ⟨fun m σ' H' => ∃ ds' S', Step X.K S H S' H' ∧ Here X.K W x ds' S' σ' H' ∧ dWhN Tt T x (upD X.K S H D) m ds' S', ⟨n, ds, S, h.refl, h, q⟩, fun m σ' H' ⟨ds', S', s', h', q'⟩ => ?_⟩
  cases m with
  | zero => exact q'.elim
  | succ m =>
    refine rc x ds' S' σ' H' _ h' (hc.mono x ds' S' _ _ (fun k S2 q2 H2 s2 => ?_) q')
    have h2 := h'.step s2
    refine ite_mono q2 (fun q2 => ?_) (fun q2 => q2 σ' H2 (s'.trans s2) h2.rs)
    refine ⟨fun σ4 H4 => ∃ ds4 S4, Step X.K S H S4 H4 ∧ Here X.K W x ds4 S4 σ4 H4 ∧ dWhN Tt T x (upD X.K S H D) m ds4 S4, fun σ4 H4 w => ⟨m, Nat.lt_succ_self m, w⟩, ?_⟩
    refine rb x ds' S2 σ' H2 _ h2 (hb.mono _ _ _ _ _ ⟨fun ds4 S4 q4 σ4 H4 s4 rs4 => ?_, fun d S4 q4 => ?_, fun ds4 S4 q4 => ?_, fun ds4 S4 q4 σ4 H4 s4 rs4 => ?_⟩ q2)
    · exact ⟨ds4, S4, (s'.trans s2).trans s4, ⟨rs4, s4.wd, (h2.step s4).xe⟩, q4⟩
    · exact q4.step (s'.trans s2)
    · exact q4.step (s'.trans s2)
    · exact ⟨ds4, S4, (s'.trans s2).trans s4, ⟨rs4, s4.wd, (h2.step s4).xe⟩, q4⟩⟩
/-! ### raise X('..') -/
structure ExcOk (K : PySem.W.Frag) (mg : Str → Option Value) (x : Str) (C : Addr) : Prop where
  g : mg x = some (.ref C)
  q : PySem.W.excIn K C He.veBase "ValueError.__new__" = true
  k : PySem.W.keepIn K (.ref C) = true
  b : PySem.W.subIn K (.ref C) (.type "BaseException") = some true
  t : PySem.W.typeIn K (.ref C) = some (.type "type")
def dRaise (C : Addr) : TS2 := fun x _ ds S => x C ds S
theorem s_raise {x m : Str} {C : Addr} {j : Nat} {p p2 pos2 : Pos} (hc : X.calm = true) (tk : Takes X W) (E : ExcOk X.K X.mg x C) (hg : Gl X x := by rfl) (hdb : (x == ("__debug__" : Str)) = false := by decide) :
    S2 X W (.Raise (some (.Call (.Name x p) [.Constant (.str m) j p2] [] pos)) none pos2) (dRaise C) := ⟨fun x ds S D D' h q => q, _, ps_raise hc tk (pmk_own PySem.F.excBase_ValueError E.q E.g E.k (raises_own E.b E.t) hg hdb), fun x ds S σ H D h q => h.xe C ds S q σ H h.refl h.rs⟩
end
end Sc

namespace Sc
open PySem PySem.Spec PyProof.Rows L2
/-! ### readings by their data -/
def cE (K : PySem.W.Frag) (W : WX) (T : TE2) : TE := fun σ H Q => ∃ x ds S, Here K W x ds S σ H ∧ T x ds S (up K S H Q)
def cT (K : PySem.W.Frag) (W : WX) (T : TT2) : TT := fun σ H Q => ∃ x ds S, Here K W x ds S σ H ∧ T x ds S (upB K S H Q)
section
variable {X : Cx} {W : WX} {a b c e elt : Expr} {es : List Expr} {Ta Tb Tc Te : TE2} {Tt Tu : TT2} {TA : TA2} {pos : Pos} {st : Stmt} {rest body : List Stmt} {T U : TS2}
theorem E2.canon (h : E2 X W e Te) : PE X e (cE X.K W Te) := by
  obtain ⟨t, p, r⟩ := h.run
  exact ⟨fun pins s σ H Q I ⟨x, ds, S, hh, q⟩ => p.run pins s σ H Q I (r x ds S σ H Q hh q)⟩
theorem T2.canon (h : T2 X W e Tt) : PT X e (cT X.K W Tt) := by
  obtain ⟨t, p, r⟩ := h.run
  exact ⟨fun pins s σ H Q I ⟨x, ds, S, hh, q⟩ => p.run pins s σ H Q I (r x ds S σ H Q hh q)⟩
abbrev W0 : WX := fun _ _ _ _ => False
abbrev x0 : XK2 := fun _ _ _ => False
/-- the ifs of a comprehension -/
structure F2 (X : Cx) (ifs : List Expr) (T : TT2) : Prop where
  mono : ∀ x ds S Q Q', (∀ d S', Q d S' → Q' d S') → T x ds S Q → T x ds S Q'
  run : PTs X ifs (cT X.K W0 T)
def dYes : TT2 := fun _ _ S Q => Q true S
theorem f_nil : F2 X [] dYes := ⟨fun _ _ _ _ _ h q => h _ _ q, ⟨fun pins s σ H Q I ⟨x, ds, S, hh, q⟩ => pts_nil.run pins s σ H Q I (q H hh.refl)⟩⟩
theorem f_one (h : T2 X W0 c Tt) : F2 X [c] Tt := ⟨h.mono, ⟨fun pins s σ H Q I q => (pts_one h.canon).run pins s σ H Q I q⟩⟩
def dComp (G : TG2) (Tt : TT2) (Te : TE2) (p : Addr) (ds : Ds) (Q : QE) : List Dt → List Dt → Cells → Prop
  | [], acc, S => S p = some (.lst acc) ∧ (Q (.lst acc) (S.del p) ∨ Q (.ref p) S)
  | d :: r, acc, S => G d ds S fun ds2 S2 => Tt x0 ds2 S2 fun k S3 => if k = true then Te x0 ds2 S3 fun y S4 => S4 p = some (.lst acc) ∧ acc.length < 100000 ∧ dComp G Tt Te p ds Q r (acc ++ [y]) (S4.put p (.lst (acc ++ [y]))) else dComp G Tt Te p ds Q r acc S3
theorem dComp.mono {G : TG2} (gm : ∀ d ds S Q Q', (∀ d S', Q d S' → Q' d S') → G d ds S Q → G d ds S Q') (tm : ∀ x ds S Q Q', (∀ d S', Q d S' → Q' d S') → Tt x ds S Q → Tt x ds S Q') (em : ∀ x ds S Q Q', (∀ d S', Q d S' → Q' d S') → Te x ds S Q → Te x ds S Q')
    {p : Addr} {ds : Ds} {Q Q' : QE} (h : ∀ d S', Q d S' → Q' d S') : ∀ items acc S, dComp G Tt Te p ds Q items acc S → dComp G Tt Te p ds Q' items acc S
  | [], acc, S, ⟨e, q⟩ => ⟨e, q.imp (h _ _) (h _ _)⟩
  | d :: r, acc, S, q => gm _ _ _ _ _ (fun ds2 S2 q2 => tm _ _ _ _ _ (fun k S3 q3 => ite_mono q3 (fun q3 => em _ _ _ _ _ (fun y S4 q4 => ⟨q4.1, q4.2.1, dComp.mono gm tm em h r _ _ q4.2.2⟩) q3) (fun q3 => dComp.mono gm tm em h r _ _ q3)) q2) q
def dLc (I : TI2) (G : TG2) (Tt : TT2) (Te : TE2) : TE2 := fun x ds S Q => I x ds S fun items S1 => ∀ p, S1 p = none → dComp G Tt Te p ds Q items [] (S1.put p (.lst []))
/-- the target of a comprehension: its own slots alone are stored -/
structure CG2 (K : PySem.W.Frag) (vs : List Nat) (g : TG) (G : TG2) : Prop where
  mono : ∀ d ds S Q Q', (∀ d S', Q d S' → Q' d S') → G d ds S Q → G d ds S Q'
  run : ∀ d v W x ds S σ H Q, Here K W x ds S σ H → Rp K (wo S H) d v → G d ds S (upS K S H Q) → g v (wipe σ vs) H fun σ2 H2 => wipe σ2 vs = wipe σ vs ∧ Q σ2 H2
theorem cg_name {K : PySem.W.Frag} (i : Nat) : CG2 K [i] (gName i) (kName i) := ⟨fun d ds S Q Q' h q => h _ _ q, fun d v W x ds S σ H Q h r q => by
  have e : ((wipe σ [i]).set i (some v)) = σ.set i (some v) := by
    show ((σ.set i none).set i (some v)) = _
    rw [List.set_set]
  show wipe ((wipe σ [i]).set i (some v)) [i] = wipe σ [i] ∧ Q ((wipe σ [i]).set i (some v)) H
  rw [e]
  refine ⟨?_, q _ H h.refl (h.rs.set r)⟩
  show (σ.set i (some v)).set i none = σ.set i none
  rw [List.set_set]⟩
theorem cg_pair {K : PySem.W.Frag} (i j : Nat) (hij : i ≠ j) : CG2 K [i, j] (gTup K 2 (gCons (gName i) (gCons (gName j) gNil))) (kTup 2 (kCons (kName i) (kCons (kName j) kNil))) := ⟨fun d ds S Q Q' h ⟨es, e, l, d1, r1, e1, d2, r2, e2, e3, q⟩ => ⟨es, e, l, d1, r1, e1, d2, r2, e2, e3, h _ _ q⟩,
    fun d v W x ds S σ H Q h r ⟨es, e, l, d1, r1, e1, d2, r2, e2, e3, q⟩ => by
  subst e1 e2 e3
  obtain ⟨a, xs, k1, k2, k3⟩ := asT_ok r e
  obtain ⟨u1, u2, k4, k5, k6⟩ := rps2 k3
  subst k4
  refine ⟨a, _, k1, k2, rfl, u1, _, rfl, u2, _, rfl, rfl, ?_⟩
  have e4 : (((wipe σ [i, j]).set i (some u1)).set j (some u2)) = (σ.set i (some u1)).set j (some u2) := by
    show ((((σ.set j none).set i none).set i (some u1)).set j (some u2)) = _
    rw [List.set_set, List.set_comm _ _ (Ne.symm hij), List.set_set]
  show wipe (((wipe σ [i, j]).set i (some u1)).set j (some u2)) [i, j] = wipe σ [i, j] ∧ Q (((wipe σ [i, j]).set i (some u1)).set j (some u2)) H
  rw [e4]
  refine ⟨?_, q _ H h.refl ((h.rs.set k5).set k6)⟩
  show ((((σ.set i (some u1)).set j (some u2)).set j none).set i none) = (σ.set j none).set i none
  rw [List.set_set, List.set_comm _ _ hij, List.set_set, List.set_comm _ _ (Ne.symm hij)]⟩
theorem lc_lift {I : TI2} {g : TG} {G : TG2} {vs : List Nat} {wi : TI} (hG : CG2 X.K vs g G) (tm : ∀ x ds S Q Q', (∀ d S', Q d S' → Q' d S') → Tt x ds S Q → Tt x ds S Q') (em : ∀ x ds S Q Q', (∀ d S', Q d S' → Q' d S') → Te x ds S Q → Te x ds S Q')
    (im : ∀ x ds S Q Q', (∀ d S', Q d S' → Q' d S') → I x ds S Q → I x ds S Q') (ri : ∀ x ds S σ H R, Here X.K W x ds S σ H → I x ds S (fun items S1 => ∀ H1 J, Step X.K S H S1 H1 → Yields X.K J items S1 H1 → R J H1) → wi σ H R) :
    ∀ x ds S σ H Q, Here X.K W x ds S σ H → dLc I G Tt Te x ds S (up X.K S H Q) → tLc wi g (cT X.K W0 Tt) (cE X.K W0 Te) vs σ H Q := fun x ds S σ H Q h q => by
  refine ri x ds S σ H _ h (im x ds S _ _ (fun items S1 q H1 J s1 y => ?_) q)
  intro D hD
  have hwo := put_wo (S := S1) (H := H1) (p := D) (o := .lst []) (.lst []) (.inr hD)
  have sD : Step X.K S1 H1 (S1.put D (.lst [])) (upd H1 D (.lst [])) := ⟨by rw [hwo]; exact Same.refl _, put_wd s1.wd (.inr hD) ⟨[], upd_same, rfl⟩⟩
  refine ⟨fun i m H' => ∃ S' acc, Step X.K S1 H1 S' H' ∧ m = items.length - i ∧ i ≤ items.length ∧ dComp G Tt Te D ds (up X.K S H Q) (items.drop i) acc S', ⟨items.length, _, [], sD, rfl, Nat.zero_le _, q D (s1.wd.free hD)⟩, fun i m H' ⟨S', acc, s', em', hi, q'⟩ => ?_⟩
  obtain ⟨y1, y2, y3⟩ := y S' H' s'
  by_cases hlt : i < items.length
  · refine .inr ⟨y1 i hlt, fun H2 => ∃ S2 acc, Step X.K S1 H1 S2 H2 ∧ dComp G Tt Te D ds (up X.K S H Q) (items.drop (i + 1)) acc S2, fun H2 ⟨S2, acc2, s2, q2⟩ => ⟨items.length - (i + 1), by omega, S2, acc2, s2, rfl, hlt, q2⟩, fun v H2 hy => ?_⟩
    obtain ⟨s2, r2⟩ := y3 i v H2 _ hy (List.getElem?_eq_getElem hlt)
    rw [List.drop_eq_getElem_cons hlt] at q'
    have h2 : Here X.K W0 x0 ds S' σ H2 := ⟨h.rs.mono (s1.trans (s'.trans s2)).same, s2.wd, fun _ _ _ z => z.elim⟩
    refine hG.run _ v W0 x0 ds S' σ H2 _ h2 r2 (hG.mono _ _ _ _ _ (fun ds3 S3 q3 σ3 H3 s3 rs3 => ?_) q')
    have h3 : Here X.K W0 x0 ds3 S3 σ3 H3 := ⟨rs3, s3.wd, fun _ _ _ z => z.elim⟩
    refine ⟨x0, ds3, S3, h3, tm _ _ _ _ _ (fun k S4 q4 H4 s4 => ?_) q3⟩
    have s14 := (s'.trans s2).trans (s3.trans s4)
    refine ite_mono q4 (fun q4 => ?_) (fun q4 => ⟨S4, acc, s14, q4⟩)
    refine ⟨x0, ds3, S4, h3.step s4, em _ _ _ _ _ (fun y S5 ⟨e5, l5, q5⟩ u H5 s5 r5 => ?_) q4⟩
    obtain ⟨accV, k1, k2⟩ := s5.wd D _ e5
    have hS : S5 D ≠ none ∨ H5 D = none := .inl (by rw [e5]; intro z; cases z)
    refine ⟨accV, k1, by rw [k2.length]; exact Nat.lt_of_lt_of_le l5 (by decide), S5.put D (.lst (acc ++ [y])), acc ++ [y], (s14.trans s5).trans ⟨?_, put_wd s5.wd hS ⟨_, upd_same, k2.app (Rps.one r5)⟩⟩, q5⟩
    rw [put_wo _ hS]
    exact Same.refl _
  · have e : i = items.length := by omega
    subst e
    rw [List.drop_length] at q'
    refine .inl ⟨y2 _ (Nat.le_refl _), ?_⟩
    obtain ⟨e5, q5⟩ := q'
    rcases q5 with q5 | q5
    · exact q5 _ _ ((s1.trans s').trans ⟨froz_same, froz_wd s'.wd⟩) (froz_at s'.wd e5)
    · exact q5 _ _ (s1.trans s') rfl
theorem e_lc {I : TI2} {g : TG} {G : TG2} {tg iter : Expr} {ifs : List Expr} {scope : Scope} {own : List (Str × Nat)} (hc : X.calm = true) (hN : X.N.Nodup) (hi : J2 X W tg iter I) (ok : BlkOk X.N X.env.scope scope own) (hG : CG2 X.K (own.map (·.2)) g G)
    (hg : ∀ (s : Shared) (H : Hp) (C : Addr) (cl : List (Str × Addr)) (fp : List Addr), PG (X.blk s H scope (compEnvC scope cl C X.env) fp) tg g) (ht : ∀ (s : Shared) (H : Hp) (C : Addr) (cl : List (Str × Addr)) (fp : List Addr), F2 (X.blk s H scope (compEnvC scope cl C X.env) fp) ifs Tt)
    (he : ∀ (s : Shared) (H : Hp) (C : Addr) (cl : List (Str × Addr)) (fp : List Addr), E2 (X.blk s H scope (compEnvC scope cl C X.env) fp) W0 elt Te) (hs : ∀ x, foldedSetIterable iter X.env x = pure x := by intro _; rfl) :
    E2 X W (.ListComp elt [⟨tg, iter, ifs, 0⟩] scope pos) (dLc I G Tt Te) := ⟨fun x ds S Q Q' h q => hi.mono _ _ _ _ _ (fun items S1 q p hp => dComp.mono hG.mono (ht X.s_0 X.H_0 0 [] []).mono (he X.s_0 X.H_0 0 [] []).mono h items [] _ (q p hp)) q, by
  obtain ⟨wi, pi, ri⟩ := hi.run
  exact ⟨_, pe_lc hc hN pi ok hg (fun s H C cl fp => (ht s H C cl fp).run) (fun s H C cl fp => (he s H C cl fp).canon) hs, lc_lift hG (ht X.s_0 X.H_0 0 [] []).mono (he X.s_0 X.H_0 0 [] []).mono hi.mono ri⟩⟩
/-- y = [..] on one line, y a local -/
theorem s_setLc (i : Nat) {y : Str} {py : Pos} {I : TI2} {g : TG} {G : TG2} {tg iter : Expr} {ifs : List Expr} {scope : Scope} {own : List (Str × Nat)} {spos : Pos} (hc : X.calm = true) (hN : X.N.Nodup) (hy : X.N[i]? = some y) (hyl : X.env.scope.names.lookup y = some .local)
    (hsw : swapsWith (.ListComp elt [⟨tg, iter, ifs, 0⟩] scope pos) (some (.Name y py)) spos.line X.env = pure true) (hi : J2 X W tg iter I) (ok : BlkOk X.N X.env.scope scope own) (hG : CG2 X.K (own.map (·.2)) g G)
    (hg : ∀ (s : Shared) (H : Hp) (C : Addr) (cl : List (Str × Addr)) (fp : List Addr), PG (X.blk s H scope (compEnvC scope cl C X.env) fp) tg g) (ht : ∀ (s : Shared) (H : Hp) (C : Addr) (cl : List (Str × Addr)) (fp : List Addr), F2 (X.blk s H scope (compEnvC scope cl C X.env) fp) ifs Tt)
    (he : ∀ (s : Shared) (H : Hp) (C : Addr) (cl : List (Str × Addr)) (fp : List Addr), E2 (X.blk s H scope (compEnvC scope cl C X.env) fp) W0 elt Te) (hs : ∀ x, foldedSetIterable iter X.env x = pure x := by intro _; rfl) :
    S2 X W (.Assign [.Name y py] (.ListComp elt [⟨tg, iter, ifs, 0⟩] scope pos) spos) (dSet i (dLc I G Tt Te)) := ⟨fun x ds S D D' h q => hi.mono _ _ _ _ _ (fun items S1 q p hp => dComp.mono hG.mono (ht X.s_0 X.H_0 0 [] []).mono (he X.s_0 X.H_0 0 [] []).mono (fun d S' q => h.nx _ _ q) items [] _ (q p hp)) q, by
  obtain ⟨wi, pi, ri⟩ := hi.run
  refine ⟨tAsg (tLc wi g (cT X.K W0 Tt) (cE X.K W0 Te) (own.map (·.2))) (gName i), ps_setLc hc hN hy hyl hsw pi ok hg (fun s H C cl fp => (ht s H C cl fp).run) (fun s H C cl fp => (he s H C cl fp).canon) hs, fun x ds S σ H D h q => ?_⟩
  refine lc_lift hG (ht X.s_0 X.H_0 0 [] []).mono (he X.s_0 X.H_0 0 [] []).mono hi.mono ri x ds S σ H _ h (hi.mono _ _ _ _ _ (fun items S1 q p hp => dComp.mono hG.mono (ht X.s_0 X.H_0 0 [] []).mono (he X.s_0 X.H_0 0 [] []).mono (fun d S' q v H' s' r' => ?_) items [] _ (q p hp)) q)
  exact q _ H' s' ((h.rs.mono s'.same).set r')⟩
end

/-! ### a def by its body -/
def start2 (n : Nat) (ds : List Dt) : Ds := ds.map some ++ List.replicate (n - ds.length) none
abbrev D0 (Q : QE) : Ends2 := { nx := fun _ S' => Q .non S', rt := Q }
abbrev X0 (E : Addr → Cells → Prop) : XK2 := fun C _ S' => E C S'
theorem start2_rs {K : PySem.W.Frag} {I : Hp} {N : List Str} {ds : List Dt} {vs : List V} (h : Rps K I ds vs) : Rs K I (start2 N.length ds) (L2.start N vs) := by
  have hl := h.length
  refine ⟨by unfold start2 L2.start; simp [hl], fun i d e => ?_⟩
  unfold start2 at e
  by_cases hi : i < ds.length
  · rw [List.getElem?_append_left (by simpa using hi), List.getElem?_map] at e
    cases q : ds[i]? with
    | none => rw [q] at e; cases e
    | some d' =>
      rw [q] at e
      cases (show some (some d') = some (some d) from e)
      obtain ⟨v, h1, h2⟩ := h.get q
      refine ⟨v, ?_, h2⟩
      unfold L2.start
      rw [List.getElem?_append_left (by rw [List.length_map, hl]; exact hi), List.getElem?_map, h1]
      rfl
  · rw [List.getElem?_append_right (by simp; omega)] at e
    rw [List.getElem?_replicate] at e
    split at e <;> cases e
/-- what is wanted may forget a new cell -/
def Fg (Q : QE) : Prop := ∀ d S p c, S p = none → Q d S → Q d (S.put p c)
/-- a list that nobody will change may be read as data -/
structure Frg (Q : QE) : Prop where
  fg : Fg Q
  fz : ∀ S p l, S p = none → Q (.lst l) S → Q (.ref p) (S.put p (.lst l))
/-- the reading T of a def's body (n slots) keeps the promise -/
def Pure (n : Nat) (sp : Sp2) (T : TS2) : Prop := ∀ ds S Q E, Frg Q → sp ds S Q E → T (X0 E) (D0 Q) (start2 n ds) S
theorem up_frg {K : PySem.W.Frag} {S : Cells} {H : Hp} {Q : VK} {d : Dt} {S' : Cells} {p : Addr} {c : Cell} (hp : S' p = none) (q : up K S H Q d S') : up K S H Q d (S'.put p c) := fun v H' s r => by
  have e : (S'.put p c).del p = S' := by
    funext a
    unfold Cells.del Cells.put
    by_cases h : a = p
    · rw [if_pos h, h, hp]
    · rw [if_neg h, if_neg h]
  have f := froz_same (S := S'.put p c) (H := H') (p := p)
  have g := froz_wd (p := p) s.wd
  rw [e] at f g
  exact q v H' ⟨s.same.trans f, g⟩ (r.mono f)
theorem up_frz {K : PySem.W.Frag} {S : Cells} {H : Hp} {Q : VK} {l : List Dt} {S' : Cells} {p : Addr} (hp : S' p = none) (q : up K S H Q (.lst l) S') : up K S H Q (.ref p) (S'.put p (.lst l)) := fun v H' s r => by
  have k := froz_at (p := p) s.wd Cells.put_same
  have e : (S'.put p (.lst l)).del p = S' := by
    funext a
    unfold Cells.del Cells.put
    by_cases h : a = p
    · rw [if_pos h, h, hp]
    · rw [if_neg h, if_neg h]
  have f := froz_same (S := S'.put p (.lst l)) (H := H') (p := p)
  have g := froz_wd (p := p) s.wd
  rw [e] at f g k
  cases (show v = _ from r)
  exact q _ H' ⟨s.same.trans f, g⟩ k
section
variable {P : Program} {w : World} {K : PySem.W.Frag} {mg : Str → Option Value} {base : Heap}
theorem fnok_mk {x : Str} {f : Addr} {fd : FuncData} {params : Arguments} {bd : List Stmt} {scope : Scope} {N ps : List Str} {k : Nat} {sp : Sp2} {T : TS2} (F : FunD K x x params bd scope [] [] f fd) (S : FnScope N ps scope)
    (len : ∀ ds S Q E, sp ds S Q E → ds.length = ps.length) (hp : Pure N.length sp T)
    (hb2 : ∀ (cdv : Value) (A : Around) (outer : List Env) (s : Shared) (H : Hp) (E : XK), Room k (A.deeper (envOfC x scope s.heap.objs.size f cdv)) → B2 (cxOf (L2.CX P w) P w K mg base N x scope f cdv A outer s H E) (fun cls d _ H => E cls d H) bd T) :
    FnOk P w K mg base (L2.CX P w) (k + 1) f fd ps (lift K sp) := by
  refine F.ok S (fun vs H Q E ⟨S1, ds, w1, r1, h⟩ => by rw [r1.length]; exact len _ _ _ _ h) (fun cdv A outer s H vs Q E hr ⟨S1, ds, w1, r1, h⟩ => ?_)
  have hT := hb2 cdv A outer s H E hr
  obtain ⟨t, p, r⟩ := hT.run
  refine ⟨t, p, r (fun C _ S' => ∀ H', Step K S1 H S' H' → E (.ref C) none H') (start2 N.length ds) S1 (L2.start N vs) H _ ⟨start2_rs r1, w1, fun C ds' S' q σ' H' s' _ => q H' s'⟩ ?_⟩
  refine hT.mono _ _ _ { nx := fun _ S' => up K S1 H Q .non S', rt := up K S1 H Q } _ ⟨fun ds' S' q σ' H' s' rs' => q _ H' s' rfl, fun d S' q => q, fun _ _ q => q.elim, fun _ _ q => q.elim⟩ (hp ds S1 (up K S1 H Q) _ ⟨fun d S' p c hp q => up_frg hp q, fun S' p l hp q => up_frz hp q⟩ h)
theorem Has.mk {x : Str} {f : Addr} {fd : FuncData} {params : Arguments} {bd : List Stmt} {scope : Scope} {N ps : List Str} {k : Nat} {sp : Sp2} {T : TS2} (F : FunD K x x params bd scope [] [] f fd) (S : FnScope N ps scope) (hm : mg x = some (.ref f)) (hb : Binds K fd ps [])
    (mono : sp.Mono) (len : ∀ ds S Q E, sp ds S Q E → ds.length = ps.length) (hp : Pure N.length sp T)
    (hb2 : ∀ (cdv : Value) (A : Around) (outer : List Env) (s : Shared) (H : Hp) (E : XK), Room k (A.deeper (envOfC x scope s.heap.objs.size f cdv)) → B2 (cxOf (L2.CX P w) P w K mg base N x scope f cdv A outer s H E) (fun cls d _ H => E cls d H) bd T) :
    Has P w K mg base (k + 1) x ps sp := ⟨mono, f, fd, hm, F.kp, hb, fnok_mk F S len hp hb2⟩
end
end Sc

namespace Sc
open PySem PySem.Spec PyProof.Rows L2
/-! ### == of data -/
mutual
def py : Dt → PyData
  | .non => .none
  | .bl b => .bool b
  | .int i => .int i
  | .str x => .str x
  | .tup ds => .tuple (pys ds)
  | .lst ds => .list (pys ds)
  | .ref _ => .none
def pys : List Dt → List PyData
  | [] => []
  | d :: ds => py d :: pys ds
end
/-- data without truth values, of a small depth -/
inductive Ok0 : Nat → Dt → Prop
  | non (n : Nat) : Ok0 n .non
  | int (n : Nat) (i : Int) : Ok0 n (.int i)
  | str (n : Nat) (x : Str) (h : PyData.strOk x = true) : Ok0 n (.str x)
  | tup {n : Nat} {ds : List Dt} (h : ∀ d, d ∈ ds → Ok0 n d) : Ok0 (n + 1) (.tup ds)
  | lst {n : Nat} {ds : List Dt} (h : ∀ d, d ∈ ds → Ok0 n d) : Ok0 (n + 1) (.lst ds)
theorem pys_lay : ∀ (ds : List Dt), (∀ d, d ∈ ds → (py d).canLay0 = true) → PyData.canLayAll0 (pys ds) = true
  | [], _ => by rw [pys, PyData.canLayAll0]
  | d :: ds, h => by rw [pys, PyData.canLayAll0, h d List.mem_cons_self, pys_lay ds (fun e he => h e (List.mem_cons_of_mem _ he))]; rfl
theorem pys_depth {n : Nat} : ∀ (ds : List Dt), (∀ d, d ∈ ds → (py d).depth ≤ n) → PyData.depthAll (pys ds) ≤ n
  | [], _ => by rw [pys, PyData.depthAll]; exact Nat.zero_le _
  | d :: ds, h => by
    rw [pys, PyData.depthAll]
    exact Nat.max_le.mpr ⟨h d List.mem_cons_self, pys_depth ds (fun e he => h e (List.mem_cons_of_mem _ he))⟩
theorem Ok0.lay {n : Nat} {d : Dt} (h : Ok0 n d) : (py d).canLay0 = true := by
  induction h with
  | non => rw [py, PyData.canLay0]
  | int => rw [py, PyData.canLay0]
  | str n x h => rw [py, PyData.canLay0]; exact h
  | tup h ih => rw [py, PyData.canLay0]; exact pys_lay _ ih
  | lst h ih => rw [py, PyData.canLay0]; exact pys_lay _ ih
theorem Ok0.depth {n : Nat} {d : Dt} (h : Ok0 n d) : (py d).depth ≤ n := by
  induction h with
  | non => rw [py, PyData.depth]; exact Nat.zero_le _
  | int => rw [py, PyData.depth]; exact Nat.zero_le _
  | str n x h => rw [py, PyData.depth]; exact Nat.zero_le _
  | tup h ih => rw [py, PyData.depth]; exact Nat.succ_le_succ (pys_depth _ ih)
  | lst h ih => rw [py, PyData.depth]; exact Nat.succ_le_succ (pys_depth _ ih)
theorem Ok0.shaped {n : Nat} {d : Dt} (h : Ok0 n d) (hn : n ≤ 64) : SeqAt.shaped (py d) = true := by
  unfold SeqAt.shaped
  rw [h.lay, decide_eq_true (Nat.le_trans h.depth hn)]
  rfl
theorem eqvAll_iff {n : Nat} : ∀ (ds es : List Dt), (∀ d, d ∈ ds → ∀ m e, Ok0 m e → (PyData.eqv (py d) (py e) = true ↔ d = e)) → (∀ e, e ∈ es → Ok0 n e) → (PyData.eqvAll (pys ds) (pys es) = true ↔ ds = es)
  | [], [], _, _ => by simp [pys, PyData.eqvAll]
  | [], e :: es, _, _ => by simp [pys, PyData.eqvAll]
  | d :: ds, [], _, _ => by simp [pys, PyData.eqvAll]
  | d :: ds, e :: es, h, h' => by
    have h1 := h d List.mem_cons_self n e (h' e List.mem_cons_self)
    have h2 := eqvAll_iff ds es (fun a ha => h a (List.mem_cons_of_mem _ ha)) (fun a ha => h' a (List.mem_cons_of_mem _ ha))
    simp only [pys, PyData.eqvAll, Bool.and_eq_true, List.cons.injEq]
    rw [h1, h2]
theorem Ok0.eqv {n : Nat} {d : Dt} (h : Ok0 n d) : ∀ {m : Nat} {e : Dt}, Ok0 m e → (PyData.eqv (py d) (py e) = true ↔ d = e) := by
  induction h with
  | non => intro m e h'; cases h' <;> simp [py, PyData.eqv]
  | int => intro m e h'; cases h' <;> simp [py, PyData.eqv]
  | str => intro m e h'; cases h' <;> simp [py, PyData.eqv]
  | tup h ih =>
    intro m e h'
    cases h' with
    | tup k =>
      have z := eqvAll_iff _ _ (fun d hd m e he => ih d hd he) k
      simp only [py, PyData.eqv, Dt.tup.injEq]
      exact z
    | _ => simp [py, PyData.eqv]
  | lst h ih =>
    intro m e h'
    cases h' with
    | lst k =>
      have z := eqvAll_iff _ _ (fun d hd m e he => ih d hd he) k
      simp only [py, PyData.eqv, Dt.lst.injEq]
      exact z
    | _ => simp [py, PyData.eqv]
mutual
theorem Rp.dp {K : PySem.W.Frag} {I H : Hp} (s : Same I H) : ∀ {d : Dt} {v : V} {n : Nat}, Ok0 n d → Rp K I d v → Dp K H v (py d)
  | .non, v, _, _, h => by cases (show v = _ from h); rw [py]; exact .non
  | .bl _, v, _, o, h => by cases o
  | .int _, v, _, _, h => by cases (show v = _ from h); rw [py]; exact .int _
  | .str _, v, _, _, h => by cases (show v = _ from h); rw [py]; exact .str _
  | .ref _, v, _, o, h => by cases o
  | .tup ds, v, _, o, h => by
    obtain ⟨a, xs, e, h1, h2⟩ := h
    subst e
    rw [py]
    refine .tup (sqT_mono s h1) (Rps.dp s (ds := ds) (fun d hd => ?_) h2)
    cases o with
    | tup k => exact ⟨_, k d hd⟩
  | .lst ds, v, _, o, h => by
    obtain ⟨a, xs, e, h1, h2⟩ := h
    subst e
    rw [py]
    refine .lst (sqL_mono s h1) (Rps.dp s (ds := ds) (fun d hd => ?_) h2)
    cases o with
    | lst k => exact ⟨_, k d hd⟩
theorem Rps.dp {K : PySem.W.Frag} {I H : Hp} (s : Same I H) : ∀ {ds : List Dt} {vs : List V}, (∀ d, d ∈ ds → ∃ n, Ok0 n d) → Rps K I ds vs → DpAll K H vs (pys ds)
  | [], vs, _, h => by cases (show vs = [] from h); rw [pys]; exact .nil
  | d :: ds, vs, o, h => by
    obtain ⟨v, us, e, h1, h2⟩ := h
    subst e
    obtain ⟨n, hn⟩ := o d List.mem_cons_self
    rw [pys]
    exact .cons (Rp.dp s hn h1) (Rps.dp s (fun e he => o e (List.mem_cons_of_mem _ he)) h2)
end
/-- a list that may change, as it is -/
def rsv (S : Cells) : Dt → Dt
  | .ref a => match S a with
    | some (.lst ds) => .lst ds
    | _ => .ref a
  | d => d
theorem rsv_dp {K : PySem.W.Frag} {S : Cells} {H : Hp} {d : Dt} {v : V} {n : Nat} (w : Wd K S H) (o : Ok0 n (rsv S d)) (r : Rp K (wo S H) d v) : Dp K H v (py (rsv S d)) := by
  cases d with
  | ref a =>
    have er : rsv S (.ref a) = (match S a with | some (.lst ds) => .lst ds | _ => .ref a) := rfl
    rw [er] at o ⊢
    cases q : S a with
    | none => rw [q] at o; cases o
    | some c =>
      cases c with
      | ins C fs => rw [q] at o; cases o
      | lst ds =>
        rw [q] at o
        show Dp K H v (py (.lst ds))
        obtain ⟨xs, k1, k2⟩ := w a _ q
        cases (show v = _ from r)
        rw [py]
        refine .lst (SqL.of k1) (Rps.dp wo_le (fun d hd => ?_) k2)
        cases o with
        | lst k => exact ⟨_, k d hd⟩
  | _ => exact Rp.dp wo_le o r
def DEq (S : Cells) (d e : Dt) (b : Bool) : Prop := ∃ n m, n ≤ 64 ∧ m ≤ 64 ∧ Ok0 n (rsv S d) ∧ Ok0 m (rsv S e) ∧ (b = true ↔ rsv S d = rsv S e)
theorem DEq.mk {S : Cells} {d e : Dt} {n m : Nat} {p : Prop} [Decidable p] (h1 : Ok0 n (rsv S d)) (h2 : Ok0 m (rsv S e)) (h : p ↔ rsv S d = rsv S e) (hn : n ≤ 64 := by decide) (hm : m ≤ 64 := by decide) : DEq S d e (decide p) :=
  ⟨n, m, hn, hm, h1, h2, decide_eq_true_iff.trans h⟩
def qEqD : QO := fun d e S Q => ∃ b, DEq S d e b ∧ Q (.bl b) S
def qNeD : QO := fun d e S Q => ∃ b, DEq S d e b ∧ Q (.bl (!b)) S
theorem bool_iff {a b : Bool} {p : Prop} (h1 : a = true ↔ p) (h2 : b = true ↔ p) : a = b := by
  rw [Bool.eq_iff_iff, h1, h2]
section
variable {X : Cx}
theorem o_eqD (hu : X.A.units + 64 < cLine) : O2 X (compareOp .Eq) qEqD := ⟨fun d e S Q Q' hq ⟨b, h, q⟩ => ⟨b, h, hq _ _ q⟩, _, op_eqD hu, fun d e v u S H Q w r1 r2 ⟨b, ⟨n, m, hn, hm, o1, o2, hb⟩, q⟩ => by
  refine ⟨_, _, rsv_dp w o1 r1, rsv_dp w o2 r2, o1.shaped hn, o2.shaped hm, ?_⟩
  rw [bool_iff (o1.eqv o2) hb]
  exact q _ H ⟨Same.refl _, w⟩ rfl⟩
theorem o_neD (hu : X.A.units + 64 < cLine) : O2 X (compareOp .NotEq) qNeD := ⟨fun d e S Q Q' hq ⟨b, h, q⟩ => ⟨b, h, hq _ _ q⟩, _, op_neD hu, fun d e v u S H Q w r1 r2 ⟨b, ⟨n, m, hn, hm, o1, o2, hb⟩, q⟩ => by
  refine ⟨_, _, rsv_dp w o1 r1, rsv_dp w o2 r2, o1.shaped hn, o2.shaped hm, ?_⟩
  rw [bool_iff (o1.eqv o2) hb]
  exact q _ H ⟨Same.refl _, w⟩ rfl⟩
end
end Sc

/-! Slices, chains and what they keep: plain Lean. -/
namespace Sm
abbrev Sl := Option Int × Option Int × Int
abbrev Pg := Int × Int × Int
def okB (o : Option Int) : Prop := ∀ i, o = some i → -30 ≤ i ∧ i ≤ 30
def okS (s : Sl) : Prop := okB s.1 ∧ okB s.2.1 ∧ -3 ≤ s.2.2 ∧ s.2.2 ≤ 3 ∧ s.2.2 ≠ 0
def okC (c : List Sl) : Prop := c.length ≤ 4 ∧ ∀ s, s ∈ c → okS s
def moved (b c lo hi : Int) : Int := max lo (min hi (if b < 0 then b + c else b))
def begP (o : Option Int) (c : Int) : Int := match o with | none => 0 | some b => moved b c 0 c
def endP (o : Option Int) (c : Int) : Int := match o with | none => c | some b => moved b c 0 c
def begN (o : Option Int) (c : Int) : Int := match o with | none => c - 1 | some b => moved b c (-1) (c - 1)
def endN (o : Option Int) (c : Int) : Int := match o with | none => -1 | some b => moved b c (-1) (c - 1)
def endsOf (s : Sl) (c : Int) : Int × Int := if 0 < s.2.2 then (begP s.1 c, endP s.2.1 c) else (begN s.1 c, endN s.2.1 c)
def manyOf (s : Sl) (c : Int) : Int :=
  if 0 < s.2.2 then max 0 (((endsOf s c).2 - (endsOf s c).1 + s.2.2 - 1) / s.2.2)
  else max 0 (((endsOf s c).1 - (endsOf s c).2 - s.2.2 - 1) / (- s.2.2))
def applied (s : Sl) (p : Pg) : Pg := (p.1 + p.2.1 * (endsOf s p.2.2).1, p.2.1 * s.2.2, manyOf s p.2.2)
def shownF (c : List Sl) (p : Pg) : Pg := c.foldl (fun p s => applied s p) p
def shown (c : List Sl) (n : Int) : Pg := shownF c (0, 1, n)
def cleaned (p : Pg) : Option Int × Option Int × Int := (if p.2.2 > 0 then some p.1 else none, if p.2.2 > 1 then some p.2.1 else none, p.2.2)
def clean (c : List Sl) (n : Int) : Option Int × Option Int × Int := cleaned (shown c n)
def absB (o : Option Int) : Int := ((o.getD 0).natAbs : Int)
/-- (threshold so far, weight so far) -/
def wts (c : List Sl) (p : Int × Int) : Int × Int := c.foldl (fun p s => (p.1 + p.2 * (1 + absB s.1 + absB s.2.1), p.2 * (s.2.2.natAbs : Int))) p
def thr (c : List Sl) : Int := (wts c (0, 1)).1
def per (c : List Sl) : Int := (wts c (0, 1)).2
def lcmI (a b : Int) : Int := ((a.natAbs.lcm b.natAbs : Nat) : Int)
def lastT (c d : List Sl) : Int := max (thr c) (thr d)
def bothP (c d : List Sl) : Int := lcmI (per c) (per d)
def bnd (c d : List Sl) : Int := lastT c d + 3 * bothP c d
/-- the smallest n from a on, m of them, at which p holds -/
def search (p : Int → Bool) : Int → Nat → Option Int
  | _, 0 => none
  | a, m + 1 => if p a = true then some a else search p (a + 1) m
def unlike (c d : List Sl) (n : Int) : Bool := decide (clean c n ≠ clean d n)
def firstD (c d : List Sl) : Option Int := search (unlike c d) 0 (bnd c d).toNat
theorem moved_pos {b c : Int} (hc : 0 ≤ c) : moved b c 0 c = if b < 0 then max 0 (b + c) else min b c := by
  unfold moved
  split <;> omega
theorem moved_neg {b c : Int} (hc : 0 ≤ c) : moved b c (-1) (c - 1) = if b < 0 then max (-1) (b + c) else min b (c - 1) := by
  unfold moved
  split <;> omega
theorem ends_pos {a b : Option Int} {t c : Int} (h : 0 < t) : endsOf (a, b, t) c = (begP a c, endP b c) := if_pos h
theorem ends_neg {a b : Option Int} {t c : Int} (h : ¬ 0 < t) : endsOf (a, b, t) c = (begN a c, endN b c) := if_neg h
theorem many_pos {a b : Option Int} {t c : Int} (h : 0 < t) : manyOf (a, b, t) c = max 0 ((endP b c - begP a c + t - 1) / t) := by
  unfold manyOf
  rw [if_pos h, ends_pos h]
theorem many_neg {a b : Option Int} {t c : Int} (h : ¬ 0 < t) : manyOf (a, b, t) c = max 0 ((begN a c - endN b c - t - 1) / (-t)) := by
  unfold manyOf
  rw [if_neg h, ends_neg h]
theorem div_max {x t : Int} (ht : 0 < t) : (max 0 x + t - 1) / t = max 0 ((x + t - 1) / t) := by
  by_cases h : 0 ≤ x
  · have e : max 0 x = x := by omega
    rw [e]
    have : 0 ≤ (x + t - 1) / t := Int.ediv_nonneg (by omega) (by omega)
    omega
  · have e : max 0 x = 0 := by omega
    rw [e]
    have h1 : (0 + t - 1) / t = 0 := Int.ediv_eq_zero_of_lt (by omega) (by omega)
    have h2 : (x + t - 1) / t < 1 := Int.ediv_lt_of_lt_mul ht (by omega)
    omega
theorem many_nn (s : Sl) (c : Int) : 0 ≤ manyOf s c := by
  unfold manyOf
  split <;> omega
theorem absB_nn (o : Option Int) : 0 ≤ absB o := Int.natCast_nonneg _
theorem absB_le {o : Option Int} (h : okB o) : absB o ≤ 30 := by
  cases o with
  | none => decide
  | some i =>
    have := h i rfl
    show ((i.natAbs : Nat) : Int) ≤ 30
    omega
theorem wts_bound : ∀ (c : List Sl) (p : Int × Int) (t w : Int), (∀ s, s ∈ c → okS s) → 0 ≤ p.1 → p.1 ≤ t → 0 < p.2 → p.2 ≤ w →
    0 ≤ (wts c p).1 ∧ 0 < (wts c p).2 ∧ (wts c p).2 ≤ w * 3 ^ c.length
  | [], p, t, w, _, h1, h2, h3, h4 => ⟨h1, h3, by simpa [wts] using h4⟩
  | s :: c, p, t, w, h, h1, h2, h3, h4 => by
    have hs := h s List.mem_cons_self
    have a1 := absB_nn s.1
    have a2 := absB_nn s.2.1
    have n1 : 1 ≤ (s.2.2.natAbs : Int) ∧ (s.2.2.natAbs : Int) ≤ 3 := by
      obtain ⟨_, _, x, y, z⟩ := hs
      omega
    have e : wts (s :: c) p = wts c (p.1 + p.2 * (1 + absB s.1 + absB s.2.1), p.2 * (s.2.2.natAbs : Int)) := rfl
    rw [e]
    have k1 : 0 ≤ p.2 * (1 + absB s.1 + absB s.2.1) := Int.mul_nonneg (by omega) (by omega)
    have k2 : 0 < p.2 * (s.2.2.natAbs : Int) := Int.mul_pos h3 (by omega)
    have k3 : p.2 * (s.2.2.natAbs : Int) ≤ w * 3 := Int.mul_le_mul h4 n1.2 (by omega) (by omega)
    have z := wts_bound c (p.1 + p.2 * (1 + absB s.1 + absB s.2.1), p.2 * (s.2.2.natAbs : Int)) (p.1 + p.2 * (1 + absB s.1 + absB s.2.1)) (w * 3) (fun s hs => h s (List.mem_cons_of_mem _ hs)) (by show 0 ≤ p.1 + _; omega) (Int.le_refl _) k2 k3
    refine ⟨z.1, z.2.1, Int.le_trans z.2.2 ?_⟩
    rw [List.length_cons, Int.pow_succ, Int.mul_assoc, Int.mul_comm 3]
    exact Int.le_refl _
theorem thr_nn {c : List Sl} (h : okC c) : 0 ≤ thr c := (wts_bound c (0, 1) 0 1 h.2 (by decide) (by decide) (by decide) (by decide)).1
theorem per_pos {c : List Sl} (h : okC c) : 0 < per c := (wts_bound c (0, 1) 0 1 h.2 (by decide) (by decide) (by decide) (by decide)).2.1
theorem pow3_le {n : Nat} (h : n ≤ 4) : (3 : Int) ^ n ≤ 81 := by
  have : n = 0 ∨ n = 1 ∨ n = 2 ∨ n = 3 ∨ n = 4 := by omega
  rcases this with e | e | e | e | e <;> subst e <;> decide
theorem per_le {c : List Sl} (h : okC c) : per c ≤ 81 := by
  have := (wts_bound c (0, 1) 0 1 h.2 (by decide) (by decide) (by decide) (by decide)).2.2
  have := pow3_le h.1
  show (wts c (0, 1)).2 ≤ 81
  omega
theorem wts_thr_le : ∀ (c : List Sl) (p : Int × Int), (∀ s, s ∈ c → okS s) → 0 < p.2 → (wts c p).1 ≤ p.1 + 61 * p.2 * c.length * 3 ^ c.length
  | [], p, _, _ => by simp [wts]
  | s :: c, p, h, h3 => by
    have hs := h s List.mem_cons_self
    have a1 := absB_nn s.1
    have a2 := absB_nn s.2.1
    have b1 := absB_le hs.1
    have b2 := absB_le hs.2.1
    have n1 : 1 ≤ (s.2.2.natAbs : Int) ∧ (s.2.2.natAbs : Int) ≤ 3 := by
      obtain ⟨_, _, x, y, z⟩ := hs
      omega
    have e : wts (s :: c) p = wts c (p.1 + p.2 * (1 + absB s.1 + absB s.2.1), p.2 * (s.2.2.natAbs : Int)) := rfl
    rw [e]
    have k2 : 0 < p.2 * (s.2.2.natAbs : Int) := Int.mul_pos h3 (by omega)
    have z := wts_thr_le c (p.1 + p.2 * (1 + absB s.1 + absB s.2.1), p.2 * (s.2.2.natAbs : Int)) (fun s hs => h s (List.mem_cons_of_mem _ hs)) k2
    refine Int.le_trans z ?_
    show p.1 + p.2 * (1 + absB s.1 + absB s.2.1) + 61 * (p.2 * (s.2.2.natAbs : Int)) * c.length * 3 ^ c.length ≤ p.1 + 61 * p.2 * ((c.length + 1 : Nat) : Int) * 3 ^ (c.length + 1)
    have p3 : (1 : Int) ≤ 3 ^ c.length := by
      have : (0 : Int) < 3 ^ c.length := Int.pow_pos (by decide)
      omega
    have u1 : p.2 * (1 + absB s.1 + absB s.2.1) ≤ p.2 * 61 := Int.mul_le_mul_of_nonneg_left (by omega) (by omega)
    have u2 : p.2 * (s.2.2.natAbs : Int) ≤ p.2 * 3 := Int.mul_le_mul_of_nonneg_left n1.2 (by omega)
    have cl : (0 : Int) ≤ (c.length : Int) := Int.natCast_nonneg _
    have u3 : 61 * (p.2 * (s.2.2.natAbs : Int)) * c.length * 3 ^ c.length ≤ 61 * (p.2 * 3) * c.length * 3 ^ c.length := by
      refine Int.mul_le_mul_of_nonneg_right (Int.mul_le_mul_of_nonneg_right (by omega) cl) (by omega)
    have u4 : 61 * p.2 * ((c.length + 1 : Nat) : Int) * 3 ^ (c.length + 1) = 61 * (p.2 * 3) * c.length * 3 ^ c.length + 61 * p.2 * 3 * 3 ^ c.length := by
      rw [Int.pow_succ, Int.natCast_add, Int.mul_add]
      simp only [Int.mul_assoc, Int.mul_comm, Int.mul_left_comm, Int.add_mul, Int.mul_add, Int.natCast_one, Int.mul_one, Int.one_mul]
    have u5 : p.2 * 61 ≤ 61 * p.2 * 3 * 3 ^ c.length := by
      have : p.2 * 61 * 1 ≤ (61 * p.2 * 3) * 3 ^ c.length := Int.mul_le_mul (by omega) p3 (by decide) (by omega)
      omega
    omega
theorem thr_le {c : List Sl} (h : okC c) : thr c ≤ 20000 := by
  have z := wts_thr_le c (0, 1) h.2 (by decide)
  have h4 := h.1
  show (wts c (0, 1)).1 ≤ 20000
  have : c.length = 0 ∨ c.length = 1 ∨ c.length = 2 ∨ c.length = 3 ∨ c.length = 4 := by omega
  rcases this with e | e | e | e | e <;> rw [e] at z <;> exact Int.le_trans z (by decide)
end Sm

namespace Sc
open PySem PySem.Spec PyProof.Rows L2 Sm
/-! ### promises -/
def psp {α : Type} (enc : α → List Dt) (pre : α → Prop) (res : α → Dt) : Sp2 := fun ds S Q _ => ∃ a, ds = enc a ∧ pre a ∧ Q (res a) S
theorem psp.mono {α : Type} {enc : α → List Dt} {pre : α → Prop} {res : α → Dt} : (psp enc pre res).Mono := ⟨fun ds S Q Q' E E' h _ ⟨a, e, p, q⟩ => ⟨a, e, p, h _ _ q⟩⟩
theorem psp.len {α : Type} {enc : α → List Dt} {pre : α → Prop} {res : α → Dt} {n : Nat} (h : ∀ a, (enc a).length = n) : ∀ ds S Q E, psp enc pre res ds S Q E → ds.length = n := fun ds S Q E ⟨a, e, _, _⟩ => by rw [e]; exact h a
/-! ### data of the program -/
def dO : Option Int → Dt
  | none => .non
  | some i => .int i
def dS (s : Sl) : Dt := .tup [dO s.1, dO s.2.1, .int s.2.2]
def dCh (c : List Sl) : Dt := .tup (c.map dS)
def dPg (p : Pg) : Dt := .tup [.int p.1, .int p.2.1, .int p.2.2]
def dCl (p : Option Int × Option Int × Int) : Dt := .tup [dO p.1, dO p.2.1, .int p.2.2]
/-- no mutable object within -/
inductive Nr : Dt → Prop
  | non : Nr .non
  | bl (b : Bool) : Nr (.bl b)
  | int (i : Int) : Nr (.int i)
  | str (x : Str) : Nr (.str x)
  | tup {ds : List Dt} (h : ∀ d, d ∈ ds → Nr d) : Nr (.tup ds)
  | lst {ds : List Dt} (h : ∀ d, d ∈ ds → Nr d) : Nr (.lst ds)
def isInt (d : Dt) (lo hi : Int) : Bool := match d with
  | .int i => decide (lo ≤ i ∧ i ≤ hi)
  | _ => false
def isBnd (d : Dt) : Bool := isN d || isInt d (-30) 30
def isStp (d : Dt) : Bool := match d with
  | .int i => decide (-3 ≤ i ∧ i ≤ 3) && decide (i ≠ 0)
  | _ => false
def isSlc (d : Dt) : Bool := match d with
  | .tup [a, b, c] => isBnd a && isBnd b && isStp c
  | _ => false
def isChn (d : Dt) : Bool := match d with
  | .tup ds => decide (ds.length ≤ 4) && ds.all isSlc
  | _ => false
theorem dO_nr (o : Option Int) : Nr (dO o) := by cases o; exact .non; exact .int _
theorem dS_nr (s : Sl) : Nr (dS s) := .tup fun d h => by
  rcases List.mem_cons.mp h with e | h
  · subst e; exact dO_nr _
  rcases List.mem_cons.mp h with e | h
  · subst e; exact dO_nr _
  rcases List.mem_cons.mp h with e | h
  · subst e; exact .int _
  · cases h
theorem dCh_nr (c : List Sl) : Nr (dCh c) := .tup fun d h => by
  obtain ⟨s, _, e⟩ := List.mem_map.mp h
  subst e
  exact dS_nr s
theorem dO_isBnd {o : Option Int} (h : okB o) : isBnd (dO o) = true := by
  cases o with
  | none => rfl
  | some i => have := h i rfl; simp [isBnd, dO, isN, isInt, this]
theorem dS_isSlc {s : Sl} (h : okS s) : isSlc (dS s) = true := by
  obtain ⟨h1, h2, h3, h4, h5⟩ := h
  simp [isSlc, dS, dO_isBnd h1, dO_isBnd h2, isStp, h3, h4, h5]
theorem dCh_isChn {c : List Sl} (h : okC c) : isChn (dCh c) = true := by
  have : (c.map dS).all isSlc = true := by
    rw [List.all_eq_true]
    intro d hd
    obtain ⟨s, hs, e⟩ := List.mem_map.mp hd
    subst e
    exact dS_isSlc (h.2 s hs)
  simp only [isChn, dCh, this, List.length_map, h.1, decide_true, Bool.and_self]
/-! ### isinstance of such data -/
def tyN : Dt → String
  | .non => "NoneType" | .bl _ => "bool" | .int _ => "int" | .str _ => "str" | .tup _ => "tuple" | .lst _ => "list" | .ref _ => "list"
theorem tyName_nr {S : Cells} {d : Dt} (h : Nr d) : tyName S d = some (tyN d) := by cases h <;> rfl
def isiN (T : String) (d : Dt) : Bool := match d with
  | .bl _ => T == "bool" || T == "int"
  | .int _ => T == "int"
  | .tup _ => T == "tuple"
  | .lst _ => T == "list"
  | .str _ => T == "str"
  | _ => false
theorem kb_NoneType_int : kitB "NoneType" "int" = some false := by decide +kernel
theorem kb_bool_int : kitB "bool" "int" = some true := by decide +kernel
theorem kb_int_int : kitB "int" "int" = some true := by decide +kernel
theorem kb_str_int : kitB "str" "int" = some false := by decide +kernel
theorem kb_tuple_int : kitB "tuple" "int" = some false := by decide +kernel
theorem kb_list_int : kitB "list" "int" = some false := by decide +kernel
theorem isi_int {S : Cells} {d : Dt} (h : Nr d) : isiD S "int" d = some (isiN "int" d) := by
  unfold isiD
  rw [tyName_nr h]
  cases h with
  | non => exact kb_NoneType_int
  | bl b => exact kb_bool_int
  | int i => exact kb_int_int
  | str x => exact kb_str_int
  | tup h => exact kb_tuple_int
  | lst h => exact kb_list_int
theorem kb_NoneType_bool : kitB "NoneType" "bool" = some false := by decide +kernel
theorem kb_bool_bool : kitB "bool" "bool" = some true := by decide +kernel
theorem kb_int_bool : kitB "int" "bool" = some false := by decide +kernel
theorem kb_str_bool : kitB "str" "bool" = some false := by decide +kernel
theorem kb_tuple_bool : kitB "tuple" "bool" = some false := by decide +kernel
theorem kb_list_bool : kitB "list" "bool" = some false := by decide +kernel
theorem isi_bool {S : Cells} {d : Dt} (h : Nr d) : isiD S "bool" d = some (isiN "bool" d) := by
  unfold isiD
  rw [tyName_nr h]
  cases h with
  | non => exact kb_NoneType_bool
  | bl b => exact kb_bool_bool
  | int i => exact kb_int_bool
  | str x => exact kb_str_bool
  | tup h => exact kb_tuple_bool
  | lst h => exact kb_list_bool
theorem kb_NoneType_tuple : kitB "NoneType" "tuple" = some false := by decide +kernel
theorem kb_bool_tuple : kitB "bool" "tuple" = some false := by decide +kernel
theorem kb_int_tuple : kitB "int" "tuple" = some false := by decide +kernel
theorem kb_str_tuple : kitB "str" "tuple" = some false := by decide +kernel
theorem kb_tuple_tuple : kitB "tuple" "tuple" = some true := by decide +kernel
theorem kb_list_tuple : kitB "list" "tuple" = some false := by decide +kernel
theorem isi_tuple {S : Cells} {d : Dt} (h : Nr d) : isiD S "tuple" d = some (isiN "tuple" d) := by
  unfold isiD
  rw [tyName_nr h]
  cases h with
  | non => exact kb_NoneType_tuple
  | bl b => exact kb_bool_tuple
  | int i => exact kb_int_tuple
  | str x => exact kb_str_tuple
  | tup h => exact kb_tuple_tuple
  | lst h => exact kb_list_tuple
theorem kb_NoneType_str : kitB "NoneType" "str" = some false := by decide +kernel
theorem kb_bool_str : kitB "bool" "str" = some false := by decide +kernel
theorem kb_int_str : kitB "int" "str" = some false := by decide +kernel
theorem kb_str_str : kitB "str" "str" = some true := by decide +kernel
theorem kb_tuple_str : kitB "tuple" "str" = some false := by decide +kernel
theorem kb_list_str : kitB "list" "str" = some false := by decide +kernel
theorem isi_str {S : Cells} {d : Dt} (h : Nr d) : isiD S "str" d = some (isiN "str" d) := by
  unfold isiD
  rw [tyName_nr h]
  cases h with
  | non => exact kb_NoneType_str
  | bl b => exact kb_bool_str
  | int i => exact kb_int_str
  | str x => exact kb_str_str
  | tup h => exact kb_tuple_str
  | lst h => exact kb_list_str
/-! ### the promises of slices.py -/
def sp_is_integer : Sp2 := psp (α := Dt × Int × Int) (fun a => [a.1, .int a.2.1, .int a.2.2]) (fun a => Nr a.1) (fun a => .bl (isInt a.1 a.2.1 a.2.2))
def sp_is_bound : Sp2 := psp (α := Dt) (fun a => [a]) Nr (fun a => .bl (isBnd a))
def sp_is_step : Sp2 := psp (α := Dt) (fun a => [a]) Nr (fun a => .bl (isStp a))
def sp_is_slice : Sp2 := psp (α := Dt) (fun a => [a]) Nr (fun a => .bl (isSlc a))
def sp_is_chain : Sp2 := psp (α := Dt) (fun a => [a]) (fun a => Nr a) (fun a => .bl (isChn a))
def sp_require_chain : Sp2 := psp (α := Dt) (fun a => [a]) (fun a => Nr a ∧ isChn a = true) (fun _ => .non)
/-! ### the promises of forms.py, compare.py -/
def sp_threshold_of : Sp2 := psp (α := List Sl) (fun c => [dCh c]) okC (fun c => .int (thr c))
def sp_period_of : Sp2 := psp (α := List Sl) (fun c => [dCh c]) okC (fun c => .int (per c))
def sp_threshold : Sp2 := psp (α := List Sl) (fun c => [dCh c]) okC (fun c => .int (thr c))
def sp_period : Sp2 := psp (α := List Sl) (fun c => [dCh c]) okC (fun c => .int (per c))
def sp_common_multiple : Sp2 := psp (α := Int × Int) (fun a => [.int a.1, .int a.2]) (fun a => 0 < a.1 ∧ 0 < a.2 ∧ a.1 ≤ 1000000000 ∧ a.2 ≤ 1000000000) (fun a => .int (lcmI a.1 a.2))
def sp_last_threshold : Sp2 := psp (α := List Sl × List Sl) (fun a => [dCh a.1, dCh a.2]) (fun a => okC a.1 ∧ okC a.2) (fun a => .int (lastT a.1 a.2))
def sp_both_periods : Sp2 := psp (α := List Sl × List Sl) (fun a => [dCh a.1, dCh a.2]) (fun a => okC a.1 ∧ okC a.2) (fun a => .int (bothP a.1 a.2))
def sp_bound_for : Sp2 := psp (α := List Sl × List Sl) (fun a => [dCh a.1, dCh a.2]) (fun a => okC a.1 ∧ okC a.2) (fun a => .int (bnd a.1 a.2))
def sp_require_both : Sp2 := psp (α := List Sl × List Sl) (fun a => [dCh a.1, dCh a.2]) (fun a => okC a.1 ∧ okC a.2) (fun _ => .non)
def sp_compare_bound : Sp2 := psp (α := List Sl × List Sl) (fun a => [dCh a.1, dCh a.2]) (fun a => okC a.1 ∧ okC a.2) (fun a => .int (bnd a.1 a.2))
theorem dS_eq (s : Sl) : dS s = .tup [dO s.1, dO s.2.1, .int s.2.2] := rfl
/-! ### the promises of the law's own reckoning -/
def sp__law_part : Sp2 := psp (α := Sl × Int) (fun a => [dS a.1, .int a.2]) (fun a => okS a.1 ∧ 0 ≤ a.2) (fun a => .tup [.int (endsOf a.1 a.2).1, .int (manyOf a.1 a.2)])
def sp__law_shown : Sp2 := psp (α := List Sl × Int) (fun a => [dCh a.1, .int a.2]) (fun a => (∀ s, s ∈ a.1 → okS s) ∧ 0 ≤ a.2 ∧ a.2 ≤ 10 ^ 18) (fun a => dCl (clean a.1 a.2))
def sp__law_weights : Sp2 := psp (α := List Sl) (fun c => [dCh c]) okC (fun c => .tup [.int (thr c), .int (per c)])
def sp__law_multiple : Sp2 := psp (α := Int × Int) (fun a => [.int a.1, .int a.2]) (fun a => 0 < a.1 ∧ 0 < a.2) (fun a => .int (lcmI a.1 a.2))
def sp__law_limit : Sp2 := psp (α := List Sl × List Sl) (fun a => [dCh a.1, dCh a.2]) (fun a => okC a.1 ∧ okC a.2) (fun a => .tup [.int (lastT a.1 a.2), .int (bothP a.1 a.2)])
def sp__law_unlike : Sp2 := psp (α := List Sl × List Sl) (fun a => [dCh a.1, dCh a.2]) (fun a => okC a.1 ∧ okC a.2) (fun a => dO (firstD a.1 a.2))
/-- start or 0 -/
theorem or0 {i : Nat} {o : Option Int} {x : XK2} {ds : Ds} {S : Cells} {Q : QE} (h : ds[i]? = some (some (dO o))) (q : Q (.int (o.getD 0)) S) : dOrT (dVar i) (dC (.int 0)) x ds S Q := by
  refine ⟨_, h, ?_⟩
  cases o with
  | none => exact ⟨false, rfl, q⟩
  | some i =>
    refine ⟨_, rfl, ?_⟩
    by_cases h : i = 0
    · subst h
      exact q
    · rw [if_pos (by simpa using h)]
      exact q
theorem abs_int (i : Int) : (if i < 0 then -i else i) = (i.natAbs : Int) := by
  split <;> omega
theorem abs_eq {o : Option Int} : (if o.getD 0 < 0 then -o.getD 0 else o.getD 0) = absB o := by
  unfold absB
  split <;> omega
/-! ### short words -/
theorem iteP {c : Prop} [Decidable c] {A B : Prop} (h : c) (a : A) : if c then A else B := by
  rw [if_pos h]
  exact a
theorem iteN {c : Prop} [Decidable c] {A B : Prop} (h : ¬ c) (b : B) : if c then A else B := by
  rw [if_neg h]
  exact b
theorem nT {b : Bool} (h : b = false) : ¬ b = true := by rw [h]; decide
theorem asQ_tup {S : Cells} {es : List Dt} : asQ S (.tup es) = some es := rfl
theorem asQ_lst {S : Cells} {es : List Dt} : asQ S (.lst es) = some es := rfl
theorem asL_lst {S : Cells} {es : List Dt} : asL S (.lst es) = some es := rfl
theorem asT_tup {es : List Dt} : asT (.tup es) = some es := rfl
theorem asQ_ref {S : Cells} {a : Addr} {es : List Dt} (h : S a = some (.lst es)) : asQ S (.ref a) = some es := by
  show (match S a with | some (.lst ds) => some ds | _ => none) = some es
  rw [h]
theorem asL_ref {S : Cells} {a : Addr} {es : List Dt} (h : S a = some (.lst es)) : asL S (.ref a) = some es := asQ_ref h
theorem asQ_put {S : Cells} {a : Addr} {es : List Dt} : asQ (S.put a (.lst es)) (.ref a) = some es := asQ_ref Cells.put_same
theorem asL_put {S : Cells} {a : Addr} {es : List Dt} : asL (S.put a (.lst es)) (.ref a) = some es := asQ_ref Cells.put_same
theorem sEq_ii {i j : Int} : sEq (.int i) (.int j) = some (decide (i = j)) := rfl
theorem sEq_bb {i j : Bool} : sEq (.bl i) (.bl j) = some (decide (i = j)) := rfl
theorem sEq_ss {i j : Str} : sEq (.str i) (.str j) = some (decide (i = j)) := rfl
theorem sEq_nn : sEq .non .non = some true := rfl
theorem sEq_ni {j : Int} : sEq .non (.int j) = some false := rfl
theorem sEq_in {i : Int} : sEq (.int i) .non = some false := rfl
theorem isN_int {i : Int} : isN (.int i) = false := rfl
theorem isN_non : isN .non = true := rfl
theorem truD_int {S : Cells} {i : Int} : truD S (.int i) = some (i != 0) := rfl
theorem truD_non {S : Cells} : truD S .non = some false := rfl
/-! ### places of short lists -/
theorem at_0 {α : Type} {a : α} {l : List α} : atI (a :: l) 0 = some a := by
  unfold atI ixN
  rw [if_pos (Int.le_refl 0), if_pos (by rw [List.length_cons]; omega)]
  rfl
theorem at_1 {α : Type} {a b : α} {l : List α} : atI (a :: b :: l) 1 = some b := by
  unfold atI ixN
  rw [if_pos (by omega), if_pos (by rw [List.length_cons, List.length_cons]; omega)]
  rfl
theorem at_2 {α : Type} {a b c : α} {l : List α} : atI (a :: b :: c :: l) 2 = some c := by
  unfold atI ixN
  rw [if_pos (by omega), if_pos (by rw [List.length_cons, List.length_cons, List.length_cons]; omega)]
  rfl
theorem ix20 : ixN 2 0 = some 0 := rfl
theorem ix21 : ixN 2 1 = some 1 := rfl
theorem at_get {α : Type} {l : List α} {i : Int} (h0 : 0 ≤ i) (h1 : i < l.length) : ∃ a, atI l i = some a ∧ a ∈ l ∧ l[i.toNat]? = some a := by
  unfold atI ixN
  rw [if_pos h0, if_pos h1]
  have hl : i.toNat < l.length := by omega
  exact ⟨l[i.toNat], List.getElem?_eq_getElem hl, List.getElem_mem hl, List.getElem?_eq_getElem hl⟩
/-! ### the drawn numbers -/
def Bag (S : Cells) (b : Addr) : Prop := ∃ c s, S b = some (.lst [.int c, .int s])
theorem Bag.put {S : Cells} {b : Addr} {c s : Int} : Bag (S.put b (.lst [.int c, .int s])) b := ⟨c, s, Cells.put_same⟩
def bsp {α β : Type} (enc : α → List Dt) (pre : α → Prop) (post : α → β → Prop) (res : β → Dt) : Sp2 := fun ds S Q _ => ∃ b a, ds = .ref b :: enc a ∧ Bag S b ∧ pre a ∧ ∀ r c s, post a r → Q (res r) (S.put b (.lst [.int c, .int s]))
theorem bsp.mono {α β : Type} {enc : α → List Dt} {pre : α → Prop} {post : α → β → Prop} {res : β → Dt} : (bsp enc pre post res).Mono := ⟨fun ds S Q Q' E E' h _ ⟨b, a, e, hb, p, q⟩ => ⟨b, a, e, hb, p, fun r c s k => h _ _ (q r c s k)⟩⟩
theorem bsp.len {α β : Type} {enc : α → List Dt} {pre : α → Prop} {post : α → β → Prop} {res : β → Dt} {n : Nat} (h : ∀ a, (enc a).length + 1 = n) : ∀ ds S Q E, bsp enc pre post res ds S Q E → ds.length = n := fun ds S Q E ⟨b, a, e, _, _⟩ => by rw [e]; exact h a
def sp__law_take : Sp2 := bsp (α := Int) (β := Int) (fun n => [.int n]) (fun n => 0 < n ∧ n ≤ 10 ^ 16) (fun n r => 0 ≤ r ∧ r < n) .int
/-- one of a list -/
def sp__law_of : Sp2 := bsp (α := List Dt) (β := Dt) (fun l => [.lst l]) (fun l => 0 < l.length ∧ l.length ≤ 100000) (fun l d => d ∈ l) id
def inW (w : Int) (o : Option Int) : Prop := ∀ i, o = some i → -w ≤ i ∧ i ≤ w
def slW (w : Int) (s : Sl) : Prop := inW w s.1 ∧ inW w s.2.1 ∧ -3 ≤ s.2.2 ∧ s.2.2 ≤ 3 ∧ s.2.2 ≠ 0
def chW (m : Int) (w : Int) (c : List Sl) : Prop := (c.length : Int) ≤ m ∧ ∀ s, s ∈ c → slW w s
def sp__law_bound : Sp2 := bsp (α := Int) (β := Option Int) (fun w => [.int w]) (fun w => 1 ≤ w ∧ w ≤ 30) (fun w o => inW w o) dO
def sp__law_slice : Sp2 := bsp (α := Int) (β := Sl) (fun w => [.int w]) (fun w => 1 ≤ w ∧ w ≤ 30) (fun w s => slW w s) dS
def sp__law_chain : Sp2 := bsp (α := Int × Int) (β := List Sl) (fun a => [.int a.1, .int a.2]) (fun a => 0 ≤ a.1 ∧ a.1 ≤ 100 ∧ 1 ≤ a.2 ∧ a.2 ≤ 30) (fun a c => chW a.1 a.2 c) dCh
/-- the script at k, a new bag -/
def sp__law_bag : Sp2 := fun ds S Q _ => ∃ (ns : List Int) (k : Int), ds = [.lst (ns.map Dt.int), .int k] ∧ 0 ≤ k ∧ k ≤ 1000 ∧ ∀ p c s, S p = none → Q (.ref p) (S.put p (.lst [.int c, .int s]))
theorem bag_mono : sp__law_bag.Mono := ⟨fun ds S Q Q' E E' h _ ⟨ns, k, e, h0, h1, q⟩ => ⟨ns, k, e, h0, h1, fun p c s hp => h _ _ (q p c s hp)⟩⟩
theorem bag_len : ∀ ds S Q E, sp__law_bag ds S Q E → ds.length = 2 := fun ds S Q E ⟨ns, k, e, _⟩ => by rw [e]; rfl
end Sc

namespace Sc
open PySem PySem.Spec PyProof.Rows L2 Sm
/-! ### loops -/
section
variable {G : TG2} {B : TS2} {x : XK2} {D : Ends2} {T : TT2}
theorem loop_rest {α : Type} (enc : α → Dt) (I : List α → Ds → Cells → Prop) (step : ∀ a r ds S (N : Ds → Cells → Prop), I (a :: r) ds S → (∀ ds' S', I r ds' S' → N ds' S') → G (enc a) ds S fun ds1 S1 => B x ⟨N, D.rt, D.nx, N⟩ ds1 S1)
    (done : ∀ ds S, I [] ds S → D.nx ds S) : ∀ (l : List α) ds S, I l ds S → dLoop G B x D (l.map enc) ds S
  | [], ds, S, h => done ds S h
  | a :: r, ds, S, h => step a r ds S _ h fun ds' S' h' => loop_rest enc I step done r ds' S' h'
theorem loop_fold {α β : Type} (enc : α → Dt) (I : β → Ds → Cells → Prop) (f : β → α → β) {l : List α} {b : β} {ds : Ds} {S : Cells} (h0 : I b ds S)
    (step : ∀ b a ds S (N : Ds → Cells → Prop), a ∈ l → I b ds S → (∀ ds' S', I (f b a) ds' S' → N ds' S') → G (enc a) ds S fun ds1 S1 => B x ⟨N, D.rt, D.nx, N⟩ ds1 S1)
    (done : ∀ ds S, I (l.foldl f b) ds S → D.nx ds S) : dLoop G B x D (l.map enc) ds S := by
  refine loop_rest (B := B) enc (fun r ds S => ∃ b', I b' ds S ∧ r.foldl f b' = l.foldl f b ∧ ∀ a, a ∈ r → a ∈ l) ?st ?dn l ds S ⟨b, h0, rfl, fun _ h => h⟩
  case st =>
    intro a r ds S N ⟨b', h, e, m⟩ hN
    exact step b' a ds S N (m a List.mem_cons_self) h fun ds' S' h' => hN ds' S' ⟨f b' a, h', e, fun c hc => m c (List.mem_cons_of_mem _ hc)⟩
  case dn =>
    intro ds S ⟨b', h, e, _⟩
    have e' : b' = l.foldl f b := e
    rw [e'] at h
    exact done ds S h
theorem loop_rng (I : Nat → Ds → Cells → Prop) {lo : Int} {n : Nat} {ds : Ds} {S : Cells} (h0 : I 0 ds S)
    (step : ∀ (i : Nat) ds S (N : Ds → Cells → Prop), i < n → I i ds S → (∀ ds' S', I (i + 1) ds' S' → N ds' S') → G (.int (lo + (i : Int))) ds S fun ds1 S1 => B x ⟨N, D.rt, D.nx, N⟩ ds1 S1)
    (done : ∀ ds S, I n ds S → D.nx ds S) : dLoop G B x D (rng lo n) ds S := by
  unfold rng
  refine loop_rest (B := B) (fun i : Nat => Dt.int (lo + (i : Int))) (fun r ds S => ∃ i : Nat, I i ds S ∧ i + r.length = n ∧ r = List.range' i r.length) ?st ?dn _ ds S ⟨0, h0, by simp, by simp [List.range_eq_range']⟩
  case st =>
    intro a r ds S N ⟨i, h, e, m⟩ hN
    rw [List.length_cons, List.range'_succ] at m
    obtain ⟨rfl, hr⟩ := List.cons.inj m
    rw [List.length_cons] at e
    exact step a ds S N (by omega) h fun ds' S' h' => hN ds' S' ⟨a + 1, h', by omega, hr⟩
  case dn =>
    intro ds S ⟨i, h, e, _⟩
    rw [List.length_nil] at e
    have e' : i = n := by omega
    rw [e'] at h
    exact done ds S h
theorem wh_inv {α : Type} (I : α → Ds → Cells → Prop) (μ : α → Nat) (step : ∀ a ds S (N : Ds → Cells → Prop), I a ds S → (∀ a' ds' S', μ a' < μ a → I a' ds' S' → N ds' S') → T x ds S fun k S1 => if k = true then B x ⟨N, D.rt, D.nx, N⟩ ds S1 else D.nx ds S1)
    {a : α} {ds : Ds} {S : Cells} (h : I a ds S) : dWhile T B x D ds S := by
  have go : ∀ n a ds S, μ a < n → I a ds S → dWhN T B x D n ds S := by
    intro n
    induction n with
    | zero => exact fun a ds S h => absurd h (Nat.not_lt_zero _)
    | succ n ih => exact fun a ds S hl hI => step a ds S _ hI fun a' ds' S' hm h' => ih a' ds' S' (by omega) h'
  exact ⟨μ a + 1, go _ a ds S (Nat.lt_succ_self _) h⟩
end
/-- a comprehension whose elements change nothing -/
theorem comp_map {G : TG2} {Te : TE2} {p : Addr} {ds : Ds} {Q : QE} (g : Dt → Dt) : ∀ (items acc : List Dt) (S : Cells), acc.length + items.length < 100000 →
    (∀ d, d ∈ items → ∀ (S : Cells) (R : QE), R (g d) S → G d ds S fun ds2 S2 => Te x0 ds2 S2 R) → (∀ c, Q (.lst (acc ++ items.map g)) ((S.put p c).del p)) → dComp G dYes Te p ds Q items acc (S.put p (.lst acc))
  | [], acc, S, _, h, q => ⟨Cells.put_same, .inl (by simpa using q _)⟩
  | d :: r, acc, S, hl, h, q => by
    have hl' : acc.length + (r.length + 1) < 100000 := hl
    refine h d List.mem_cons_self _ (fun y S4 => S4 p = some (.lst acc) ∧ acc.length < 100000 ∧ dComp G dYes Te p ds Q r (acc ++ [y]) (S4.put p (.lst (acc ++ [y])))) ⟨Cells.put_same, by omega, ?_⟩
    rw [Cells.put_put]
    refine comp_map g r (acc ++ [g d]) S (by rw [List.length_append, List.length_singleton]; omega) (fun e he => h e (List.mem_cons_of_mem _ he)) fun c => ?_
    have := q c
    simpa using this
theorem del_put {S : Cells} {p : Addr} {c : Cell} (h : S p = none) : (S.put p c).del p = S := by
  funext a
  unfold Cells.del Cells.put
  by_cases e : a = p
  · rw [if_pos e, e, h]
  · rw [if_neg e, if_neg e]
/-- the same, the whole expression -/
theorem lc_map {I : TI2} {G : TG2} {Te : TE2} {x : XK2} {ds : Ds} {S : Cells} {Q : QE} {items : List Dt} (g : Dt → Dt) (hi : ∀ R : List Dt → Cells → Prop, R items S → I x ds S R) (hl : items.length < 100000)
    (h : ∀ d, d ∈ items → ∀ (S : Cells) (R : QE), R (g d) S → G d ds S fun ds2 S2 => Te x0 ds2 S2 R) (q : Q (.lst (items.map g)) S) : dLc I G dYes Te x ds S Q :=
  hi _ fun p hp => comp_map g items [] S (by simpa using hl) h fun c => by
    rw [del_put hp]
    simpa using q
theorem put_comm {S : Cells} {a b : Addr} {x y : Cell} (h : a ≠ b) : (S.put a x).put b y = (S.put b y).put a x := by
  funext c
  unfold Cells.put
  by_cases h1 : c = b
  · rw [if_pos h1, if_neg (by rw [h1]; exact h.symm), if_pos h1]
  · rw [if_neg h1, if_neg h1]
theorem put_self {S : Cells} {a : Addr} {x : Cell} (h : S a = some x) : S.put a x = S := by
  funext c
  unfold Cells.put
  by_cases h1 : c = a
  · rw [if_pos h1, h1, h]
  · rw [if_neg h1]
theorem del_put_ne {S : Cells} {a p : Addr} {x c : Cell} (hp : S p = none) (h : a ≠ p) : ((S.put a x).put p c).del p = S.put a x := del_put (by rw [Cells.put_ne h.symm]; exact hp)
/-- a comprehension whose elements draw from the bag at b -/
theorem comp_bag {β : Type} (res : β → Dt) (good : β → Prop) {G : TG2} {Te : TE2} {p b : Addr} (hbp : b ≠ p) {ds : Ds} {Q : QE} : ∀ (items : List Dt) (acc : List β) (S : Cells) (c s : Int), acc.length + items.length < 100000 → (∀ r, r ∈ acc → good r) →
    (∀ d, d ∈ items → ∀ (S : Cells) (R : QE), Bag S b → (∀ r c s, good r → R (res r) (S.put b (.lst [.int c, .int s]))) → G d ds S fun ds2 S2 => Te x0 ds2 S2 R) →
    (∀ (l : List β) c s k, l.length = acc.length + items.length → (∀ r, r ∈ l → good r) → Q (.lst (l.map res)) (((S.put b (.lst [.int c, .int s])).put p k).del p)) →
    dComp G dYes Te p ds Q items (acc.map res) ((S.put b (.lst [.int c, .int s])).put p (.lst (acc.map res)))
  | [], acc, S, c, s, _, hg, h, q => ⟨Cells.put_same, .inl (q acc c s _ (by simp) hg)⟩
  | d :: r, acc, S, c, s, hl, hg, h, q => by
    have hl' : acc.length + (r.length + 1) < 100000 := hl
    refine h d List.mem_cons_self _ (fun y S4 => S4 p = some (.lst (acc.map res)) ∧ (acc.map res).length < 100000 ∧ dComp G dYes Te p ds Q r (acc.map res ++ [y]) (S4.put p (.lst (acc.map res ++ [y])))) ⟨c, s, by rw [Cells.put_ne hbp]; exact Cells.put_same⟩ fun z c2 s2 hz => ?_
    rw [put_comm (Ne.symm hbp), Cells.put_put]
    refine ⟨Cells.put_same, by rw [List.length_map]; omega, ?_⟩
    rw [Cells.put_put]
    have e : acc.map res ++ [res z] = (acc ++ [z]).map res := by simp
    rw [e]
    refine comp_bag res good hbp r (acc ++ [z]) S c2 s2 (by rw [List.length_append, List.length_singleton]; omega) ?_ (fun e he => h e (List.mem_cons_of_mem _ he)) ?_
    · intro r' hr
      rcases List.mem_append.mp hr with hr | hr
      · exact hg r' hr
      · rw [List.mem_singleton.mp hr]
        exact hz
    · intro l c3 s3 k hl3 hgl
      refine q l c3 s3 k ?_ hgl
      rw [hl3, List.length_append, List.length_singleton, List.length_cons]
      omega
theorem bag_comp {β : Type} (res : β → Dt) (good : β → Prop) {G : TG2} {Te : TE2} {ds : Ds} {S : Cells} {Q : QE} {items : List Dt} {b : Addr} (hb : Bag S b) (hl : items.length < 100000)
    (h : ∀ d, d ∈ items → ∀ (S : Cells) (R : QE), Bag S b → (∀ r c s, good r → R (res r) (S.put b (.lst [.int c, .int s]))) → G d ds S fun ds2 S2 => Te x0 ds2 S2 R)
    (q : ∀ (l : List β) c s, l.length = items.length → (∀ r, r ∈ l → good r) → Q (.lst (l.map res)) (S.put b (.lst [.int c, .int s]))) : ∀ p, S p = none → dComp G dYes Te p ds Q items [] (S.put p (.lst [])) := fun p hp => by
  obtain ⟨c, s, e⟩ := hb
  have hbp : b ≠ p := Cells.ne_new e hp
  have z := comp_bag res good hbp (G := G) (Te := Te) (ds := ds) (Q := Q) items [] S c s (by simpa using hl) (fun _ h => by cases h) h fun l c2 s2 k hl2 hg => by
    rw [del_put_ne hp hbp]
    exact q l c2 s2 (by simpa using hl2) hg
  rw [put_self e] at z
  exact z
end Sc

namespace Sc
open PySem PySem.Spec PyProof.Rows L2 Sm
/-- what the law promises -/
def sp_law : Sp2 := fun ds S Q _ => ∃ ns : List Int, ds = [.lst (ns.map Dt.int)] ∧ ns.length ≤ 63 ∧ ∀ S', Q (.bl true) S'
theorem law_len : ∀ ds S Q E, sp_law ds S Q E → ds.length = 1 := fun ds S Q E ⟨ns, e, _⟩ => by rw [e]; rfl
theorem rps_ints {K : PySem.W.Frag} {I : Hp} : ∀ ns : List Int, Rps K I (ns.map Dt.int) (ns.map V.int)
  | [] => rfl
  | n :: ns => ⟨_, _, rfl, rfl, rps_ints ns⟩
theorem law_in {K : PySem.W.Frag} {H : Hp} {a : Addr} {ns : List Int} (hl : ns.length ≤ 63) (h : SqL K H a (ns.map V.int)) : lift K sp_law [.ref a] H (fun v _ => v = .bl true) fun _ _ _ => False := by
  refine ⟨fun _ => none, [.lst (ns.map Dt.int)], (fun b c e => nomatch e), ⟨_, _, rfl, ⟨a, ns.map V.int, rfl, ?_, rps_ints ns⟩, rfl⟩, ns, rfl, hl, fun S' v H' st r => r⟩
  have e : wo (fun _ => none) H = H := funext fun b => wo_none rfl
  rw [e]
  exact h
/-- the end: the law's promise, over every written part -/
theorem end_walk {l : PySem.W.OpenLaw} {k : Nat} {q : Program} {loose : List Str} {XP : (Str → Option Value) → Heap → Prop} {YP : World → Heap → Prop} {d : DefRec}
    (e63 : l.most = some 63) (nodf : d.params.defaults = []) (room : Room k callerA)
    (F : ∀ (w : World) (mg : Str → Option Value) (fa : Addr) (h : Heap), YP w h → h.Ns mainGlobals mg → mg d.name = some (.ref fa) →
      ∃ (K : PySem.W.Frag) (fd : FuncData), K.In h ∧ (∀ (s : Shared) (u : Value), BindsTo s fd ⟨[u], []⟩ [("_law_script", u)]) ∧
        ∀ base : Heap, K.In base → base.Ns mainGlobals mg → FnOk l.prog w K mg base (L2.CX l.prog w) k fa fd ["_law_script"] (lift K sp_law)) :
    PySem.W.WalkO q loose XP YP l.row.toRowW d [] (fun f vs => PySem.call f vs) := by
  refine Att.attach_call e63 nodf fun w z0 z1 mg mb fa ob pm cdv doc ad us ns gr yy _ _ _ named sq numz few gens0 => ?_
  obtain ⟨K, fd, inK, binds, keeps⟩ := F w mg fa _ yy gr.T.g named
  refine law_call inK gr.T.g gr.T.b gr.T.builtins gr.T.nolimit gens0 sq numz (Nat.le_trans few (by decide)) room keeps binds (fun H _ hS => law_in few hS) fun H e s' z => ?_
  unfold L2.CX at z
  obtain ⟨_, _, _, _, _, _, _, _, _, _, _, _, z⟩ := z
  exact z
end Sc

namespace Sc
open PySem PySem.Spec PyProof.Rows L2 Sm
/-! ### equal data -/
theorem rsv_tup {S : Cells} {ds : List Dt} : rsv S (.tup ds) = .tup ds := rfl
theorem rsv_lst {S : Cells} {ds : List Dt} : rsv S (.lst ds) = .lst ds := rfl
theorem deq_self {S : Cells} {d : Dt} {n : Nat} (o : Ok0 n (rsv S d)) (hn : n ≤ 64) : DEq S d d true := ⟨n, n, hn, hn, o, o, by simp⟩
theorem ne_self {S : Cells} {Q : QE} {d : Dt} {n : Nat} (o : Ok0 n (rsv S d)) (hn : n ≤ 64) (q : Q (.bl false) S) : qNeD d d S Q := ⟨true, deq_self o hn, q⟩
theorem eq_self {S : Cells} {Q : QE} {d : Dt} {n : Nat} (o : Ok0 n (rsv S d)) (hn : n ≤ 64) (q : Q (.bl true) S) : qEqD d d S Q := ⟨true, deq_self o hn, q⟩
theorem ok_t2 {i j : Int} : Ok0 1 (.tup [.int i, .int j]) := .tup fun d h => by
  rcases List.mem_cons.mp h with e | h
  · subst e; exact .int _ _
  rcases List.mem_cons.mp h with e | h
  · subst e; exact .int _ _
  cases h
theorem dO_ok (n : Nat) (o : Option Int) : Ok0 n (dO o) := by cases o; exact .non _; exact .int _ _
theorem dS_ok (s : Sl) : Ok0 1 (dS s) := .tup fun d h => by
  rcases List.mem_cons.mp h with e | h
  · subst e; exact dO_ok _ _
  rcases List.mem_cons.mp h with e | h
  · subst e; exact dO_ok _ _
  rcases List.mem_cons.mp h with e | h
  · subst e; exact .int _ _
  cases h
theorem dCh_ok (c : List Sl) : Ok0 2 (dCh c) := .tup fun d h => by
  obtain ⟨s, _, e⟩ := List.mem_map.mp h
  subst e
  exact dS_ok s
theorem dCl_ok (p : Option Int × Option Int × Int) : Ok0 1 (dCl p) := dS_ok p
theorem dO_inj {a b : Option Int} : dO a = dO b ↔ a = b := by
  cases a <;> cases b <;> simp [dO]
theorem dCl_inj {a b : Option Int × Option Int × Int} : dCl a = dCl b ↔ a = b := by
  obtain ⟨a1, a2, a3⟩ := a
  obtain ⟨b1, b2, b3⟩ := b
  simp [dCl, dO_inj]
/-- of the law's own drawing -/
theorem chW_ok {m w : Int} {c : List Sl} (hm : m ≤ 4) (hw : w ≤ 30) (h : chW m w c) : okC c := by
  refine ⟨by have := h.1; omega, fun s hs => ?_⟩
  obtain ⟨h1, h2, h3⟩ := h.2 s hs
  exact ⟨fun i e => by have := h1 i e; omega, fun i e => by have := h2 i e; omega, h3⟩
theorem slW_ok {w : Int} {s : Sl} (hw : w ≤ 30) (h : slW w s) : okS s := by
  obtain ⟨h1, h2, h3⟩ := h
  exact ⟨fun i e => by have := h1 i e; omega, fun i e => by have := h2 i e; omega, h3⟩
theorem lit_ok {c : List Sl} (hl : c.length ≤ 4) (h : c.all (fun s => decide ((s.1.getD 0).natAbs ≤ 30) && decide ((s.2.1.getD 0).natAbs ≤ 30) && decide (-3 ≤ s.2.2) && decide (s.2.2 ≤ 3) && decide (s.2.2 ≠ 0)) = true) : okC c := by
  refine ⟨hl, fun s hs => ?_⟩
  have z := List.all_eq_true.mp h s hs
  simp only [Bool.and_eq_true, decide_eq_true_eq] at z
  obtain ⟨⟨⟨⟨h1, h2⟩, h3⟩, h4⟩, h5⟩ := z
  exact ⟨fun i e => by rw [e] at h1; have h1 : i.natAbs ≤ 30 := h1; omega, fun i e => by rw [e] at h2; have h2 : i.natAbs ≤ 30 := h2; omega, h3, h4, h5⟩
/-- the rounds of a law -/
theorem turns_le (n : Nat) : -1000000000000000000 ≤ (if (8 : Int) < (n : Int) then (8 : Int) else (n : Int)) + 2 ∧ (if (8 : Int) < (n : Int) then (8 : Int) else (n : Int)) + 2 ≤ 10 := by
  split <;> omega
end Sc

namespace Sc
open PySem PySem.Spec PyProof.Rows L2 Sm
local macro_rules | `(tactic| walk_at "wp") => `(tactic| simp only [dRet, dSeq, dIfS, dNext, dDrop, dSet, dAsg, dPar, dPar3, dAug, dVar, dC, dOp, dUn, dTest, dTru, dNot, dAnd, dOr, dAndV, dOrV, dNotV, dIf, dChain, dCall, dCons, dNil, dCB, dTup, dLst, dIsi, dStore, kSub, dYes, dFor, dIt, dItL, dRng1, dRng2, dSl, dNoP, dPart, dMt, dRaise,
  qI, qI0, qAdd, qSub, qMul, qFdiv, qFdivN, qMod, qPow, qLt, qLe, qGt, qGe, qEq, qNe, qIsN, qNotN, qIsB, qNotB, qNeg, qAbs, qMax2, qMin2, qLen, qIx, qTupOf, qLstOf, qSlT, qSlL, qCatT, qRepT, kName, kTup, kCons, kNil, start2, List.map_cons, List.map_nil, List.length_cons, List.length_nil, List.replicate, List.cons_append, List.nil_append, List.append_nil,
  List.getElem?_cons_zero, List.getElem?_cons_succ, List.set_cons_zero, List.set_cons_succ, Option.some.injEq, exists_eq_left', exists_eq_left, Dt.int.injEq, Dt.bl.injEq, Dt.ref.injEq, Dt.tup.injEq, Dt.lst.injEq, Nat.sub_zero, Nat.zero_add, Nat.reduceAdd, Nat.reduceSub, asQ_tup, asQ_lst, asL_lst, asT_tup, asQ_put, asL_put, exists_and_left, List.cons.injEq, and_true, isN_int, isN_non, truD_int, truD_non, at_0, at_1, at_2, ix20, ix21, Cells.put_same, Cells.put_put, Cell.lst.injEq, sEq_ii, sEq_bb, sEq_ss, sEq_nn, sEq_ni, sEq_in, true_and, decide_eq_true_eq, and_assoc])
/-! ### slices.py: what is a slice, a chain -/
def T_is_integer : TS2 :=
  (dRet (dAndV (dIsi "int" (dVar 0)) (dAndV (dNotV (dIsi "bool" (dVar 0))) (dChain qLe qLe (dVar 1) (dVar 0) (dVar 2)))))
theorem pure_is_integer : Pure 3 sp_is_integer T_is_integer := by
  rintro ds S Q E frg ⟨⟨d, lo, hi⟩, rfl, hn, q⟩
  unfold T_is_integer
  walk_at "wp"
  simp only [isi_int hn, isi_bool hn, Option.some.injEq, exists_eq_left']
  cases d <;> simp only [isiN, isInt] at q ⊢ <;> try simpa using q
  rename_i i
  by_cases h1 : lo ≤ i <;> by_cases h2 : i ≤ hi <;> simpa [h1, h2] using q
def T_is_bound : TS2 :=
  (dRet (dOrV (dOp qIsN (dVar 0) (dC .non)) (dCall sp_is_integer (dCons (dVar 0) (dCons (dOp qSub (dC (.int 0)) (dC (.int 30))) (dCons (dC (.int 30)) dNil))))))
theorem pure_is_bound : Pure 1 sp_is_bound T_is_bound := by
  rintro ds S Q E frg ⟨d, rfl, hn, q⟩
  unfold T_is_bound
  walk_at "wp"
  simp only [isBnd] at q
  cases h : isN d
  · refine ⟨(d, -30, 30), rfl, hn, ?_⟩
    simpa [h] using q
  · simpa [h] using q
def T_is_step : TS2 :=
  (dRet (dAndV (dCall sp_is_integer (dCons (dVar 0) (dCons (dOp qSub (dC (.int 0)) (dC (.int 3))) (dCons (dC (.int 3)) dNil)))) (dOp qNe (dVar 0) (dC (.int 0)))))
theorem pure_is_step : Pure 1 sp_is_step T_is_step := by
  rintro ds S Q E frg ⟨d, rfl, hn, q⟩
  unfold T_is_step
  walk_at "wp"
  refine ⟨(d, -3, 3), rfl, hn, _, rfl, ?_⟩
  cases d with
  | int i =>
    simp only [isStp, isInt] at q ⊢
    by_cases h1 : -3 ≤ i ∧ i ≤ 3
    · refine iteP (decide_eq_true h1) ⟨_, rfl, ?_⟩
      simpa [h1] using q
    · refine iteN (nT (decide_eq_false h1)) ?_
      simpa [h1] using q
  | _ => exact q
theorem qlen {es : List Dt} {S : Cells} {Q : QE} (q : Q (.int es.length) S) : qLen [.tup es] S Q := ⟨_, es, rfl, rfl, q⟩
def T_is_slice : TS2 :=
  (dSeq (dIfS (dOr (dNot (dTest (dIsi "tuple" (dVar 0)))) (dTest (dOp qNe (dCB qLen (dCons (dVar 0) dNil)) (dC (.int 3))))) (dRet (dC (.bl false))) dNext)
  (dRet (dAndV (dCall sp_is_bound (dCons (dOp qIx (dVar 0) (dC (.int 0))) dNil)) (dAndV (dCall sp_is_bound (dCons (dOp qIx (dVar 0) (dC (.int 1))) dNil)) (dCall sp_is_step (dCons (dOp qIx (dVar 0) (dC (.int 2))) dNil))))))
theorem pure_is_slice : Pure 1 sp_is_slice T_is_slice := by
  rintro ds S Q E frg ⟨d, rfl, hn, q⟩
  unfold T_is_slice
  walk_at "wp"
  refine ⟨_, isi_tuple hn, ?_⟩
  cases hn with
  | tup h =>
    rename_i es
    refine iteN (nT (by rfl)) ⟨es, rfl, ?_⟩
    by_cases h3 : (es.length : Int) = 3
    · obtain ⟨a, b, c, rfl⟩ : ∃ a b c, es = [a, b, c] := by
        match es, h3 with
        | [a, b, c], _ => exact ⟨a, b, c, rfl⟩
        | [], h => simp at h
        | [_], h => simp at h
        | [_, _], h => simp at h
        | _ :: _ :: _ :: _ :: l, h => simp at h; omega
      refine iteN (by simp) ⟨_, rfl, _, at_0, a, rfl, h a (by simp), _, rfl, ?_⟩
      simp only [isSlc] at q
      refine ite2 (fun h1 => ?_) (fun h1 => ?_)
      · rw [h1, Bool.true_and] at q
        refine ⟨_, rfl, _, at_1, b, rfl, h b (by simp), _, rfl, ?_⟩
        refine ite2 (fun h2 => ?_) (fun h2 => ?_)
        · rw [h2, Bool.true_and] at q
          exact ⟨_, rfl, _, at_2, c, rfl, h c (by simp), q⟩
        · simpa [h2] using q
      · simpa [h1] using q
    · refine iteP (by simp [h3]) ?_
      have e : isSlc (.tup es) = false := by
        unfold isSlc
        split
        · rename_i heq
          cases heq
          simp at h3
        · rfl
      have q : Q (.bl (isSlc (.tup es))) S := q
      rw [e] at q
      exact q
  | _ => exact q
def T_is_chain : TS2 :=
  (dRet (dAndV (dIsi "tuple" (dVar 0)) (dAndV (dOp qLe (dCB qLen (dCons (dVar 0) dNil)) (dC (.int 4))) (dCB qAll (dCons (dLc (dIt (dVar 0)) (kName 1) dYes (dCall sp_is_slice (dCons (dVar 1) dNil))) dNil)))))
theorem pure_is_chain : Pure 2 sp_is_chain T_is_chain := by
  rintro ds S Q E frg ⟨d, rfl, hn, q⟩
  unfold T_is_chain
  walk_at "wp"
  refine ⟨_, isi_tuple hn, ?_⟩
  cases hn with
  | tup h =>
    rename_i es
    refine iteP rfl ⟨es, rfl, ?_⟩
    simp only [isChn] at q
    by_cases h4 : es.length ≤ 4
    · have h4' : (es.length : Int) ≤ 4 := by omega
      refine iteP h4' ?_
      refine lc_map (items := es) (fun d => .bl (isSlc d)) (fun R r => ⟨_, rfl, es, rfl, r⟩) (by omega) (fun d hd S R r => ?_) ?_
      · exact ⟨d, rfl, d, rfl, h d hd, r⟩
      · refine ⟨_, es.map isSlc, rfl, ?_, ?_⟩
        · show some _ = some _
          rw [List.map_map]
          rfl
        · rw [List.all_map]
          simpa [h4] using q
    · refine iteN (by omega) ?_
      simpa [h4] using q
  | _ => exact q
def T_require_chain (a_InvalidChain : Addr) : TS2 :=
  (dIfS (dNot (dTest (dCall sp_is_chain (dCons (dVar 0) dNil)))) (dRaise a_InvalidChain) dNext)
theorem pure_require_chain (a : Addr) : Pure 1 sp_require_chain (T_require_chain a) := by
  rintro ds S Q E frg ⟨d, rfl, ⟨hn, hc⟩, q⟩
  unfold T_require_chain
  walk_at "wp"
  exact ⟨d, rfl, hn, _, rfl, iteN (by rw [hc]; decide) q⟩
end Sc

namespace Sc
open PySem PySem.Spec PyProof.Rows L2 Sm
local macro_rules | `(tactic| walk_at "wp") => `(tactic| simp only [dRet, dSeq, dIfS, dNext, dDrop, dSet, dAsg, dPar, dPar3, dAug, dVar, dC, dOp, dUn, dTest, dTru, dNot, dAnd, dOr, dAndV, dOrV, dNotV, dIf, dChain, dCall, dCons, dNil, dCB, dTup, dLst, dIsi, dStore, kSub, dYes, dFor, dIt, dItL, dRng1, dRng2, dSl, dNoP, dPart, dMt, dRaise,
  qI, qI0, qAdd, qSub, qMul, qFdiv, qFdivN, qMod, qPow, qLt, qLe, qGt, qGe, qEq, qNe, qIsN, qNotN, qIsB, qNotB, qNeg, qAbs, qMax2, qMin2, qLen, qIx, qTupOf, qLstOf, qSlT, qSlL, qCatT, qRepT, kName, kTup, kCons, kNil, start2, List.map_cons, List.map_nil, List.length_cons, List.length_nil, List.replicate, List.cons_append, List.nil_append, List.append_nil,
  List.getElem?_cons_zero, List.getElem?_cons_succ, List.set_cons_zero, List.set_cons_succ, Option.some.injEq, exists_eq_left', exists_eq_left, Dt.int.injEq, Dt.bl.injEq, Dt.ref.injEq, Dt.tup.injEq, Dt.lst.injEq, Nat.sub_zero, Nat.zero_add, Nat.reduceAdd, Nat.reduceSub, asQ_tup, asQ_lst, asL_lst, asT_tup, asQ_put, asL_put, exists_and_left, List.cons.injEq, and_true, isN_int, isN_non, truD_int, truD_non, at_0, at_1, at_2, ix20, ix21, Cells.put_same, Cells.put_put, Cell.lst.injEq, sEq_ii, sEq_bb, sEq_ss, sEq_nn, sEq_ni, sEq_in, true_and, decide_eq_true_eq, and_assoc])
/-! ### forms.py -/
def T_threshold_of : TS2 :=
  (dSeq (dAsg (dTup (dCons (dC (.int 0)) (dCons (dC (.int 1)) dNil))) (kTup 2 (kCons (kName 1) (kCons (kName 2) kNil))))
  (dSeq (dFor (dIt (dVar 0)) (kTup 3 (kCons (kName 3) (kCons (kName 4) (kCons (kName 5) kNil)))) (dSeq (dAug 1 qAdd (dOp qMul (dVar 2) (dOp qAdd (dOp qAdd (dC (.int 1)) (dCB qAbs (dCons (dOrT (dVar 3) (dC (.int 0))) dNil))) (dCB qAbs (dCons (dOrT (dVar 4) (dC (.int 0))) dNil)))))
  (dAug 2 qMul (dCB qAbs (dCons (dVar 5) dNil)))))
  (dRet (dVar 1))))
theorem pure_threshold_of : Pure 6 sp_threshold_of T_threshold_of := by
  rintro ds S Q E frg ⟨c, rfl, hc, q⟩
  unfold T_threshold_of
  walk_at "wp"
  refine ⟨by decide, _, rfl, ?_⟩
  refine loop_fold dS (fun (b : Int × Int) ds S' => S' = S ∧ ∃ u v w, ds = [some (dCh c), some (.int b.1), some (.int b.2), u, v, w]) (fun p s => (p.1 + p.2 * (1 + absB s.1 + absB s.2.1), p.2 * (s.2.2.natAbs : Int))) (b := (0, 1)) ⟨rfl, _, _, _, rfl⟩ ?_ ?_
  · rintro b s ds S' N hs ⟨rfl, u, v, w, rfl⟩ hN
    rw [dS_eq]
    walk_at "wp"
    refine or0 rfl ?_
    walk_at "wp"
    refine or0 rfl ?_
    walk_at "wp"
    rw [abs_eq, abs_eq, abs_int]
    have o := hc.2 s hs
    have b1 := absB_nn s.1
    have b2 := absB_nn s.2.1
    have b3 := absB_le o.1
    have b4 := absB_le o.2.1
    have h4 := o.2.2
    exact ⟨.inr (by omega), .inr (by omega), hN _ _ ⟨rfl, _, _, _, rfl⟩⟩
  · rintro ds S' ⟨rfl, u, v, w, rfl⟩
    exact ⟨_, rfl, q⟩
def T_period_of : TS2 :=
  (dSeq (dSet 1 (dC (.int 1)))
  (dSeq (dFor (dIt (dVar 0)) (kTup 3 (kCons (kName 2) (kCons (kName 3) (kCons (kName 4) kNil)))) (dAug 1 qMul (dCB qAbs (dCons (dVar 4) dNil))))
  (dRet (dVar 1))))
theorem pure_period_of : Pure 5 sp_period_of T_period_of := by
  rintro ds S Q E frg ⟨c, rfl, hc, q⟩
  unfold T_period_of
  walk_at "wp"
  refine ⟨_, rfl, ?_⟩
  refine loop_fold dS (fun (b : Int × Int) ds S' => S' = S ∧ ∃ u v w, ds = [some (dCh c), some (.int b.2), u, v, w]) (fun p s => (p.1 + p.2 * (1 + absB s.1 + absB s.2.1), p.2 * (s.2.2.natAbs : Int))) (b := (0, 1)) ⟨rfl, _, _, _, rfl⟩ ?_ ?_
  · rintro b s ds S' N hs ⟨rfl, u, v, w, rfl⟩ hN
    rw [dS_eq]
    walk_at "wp"
    rw [abs_int]
    have h4 := (hc.2 s hs).2.2
    exact ⟨.inr (by omega), hN _ _ ⟨rfl, _, _, _, rfl⟩⟩
  · rintro ds S' ⟨rfl, u, v, w, rfl⟩
    exact ⟨_, rfl, q⟩
theorem chain_req {c : List Sl} (h : okC c) : Nr (dCh c) ∧ isChn (dCh c) = true := ⟨dCh_nr c, dCh_isChn h⟩
def T_threshold : TS2 :=
  (dSeq (dDrop (dCall sp_require_chain (dCons (dVar 0) dNil)))
  (dRet (dCall sp_threshold_of (dCons (dVar 0) dNil))))
theorem pure_threshold : Pure 1 sp_threshold T_threshold := by
  rintro ds S Q E frg ⟨c, rfl, hc, q⟩
  unfold T_threshold
  walk_at "wp"
  exact ⟨_, rfl, chain_req hc, c, rfl, hc, q⟩
def T_period : TS2 :=
  (dSeq (dDrop (dCall sp_require_chain (dCons (dVar 0) dNil)))
  (dRet (dCall sp_period_of (dCons (dVar 0) dNil))))
theorem pure_period : Pure 1 sp_period T_period := by
  rintro ds S Q E frg ⟨c, rfl, hc, q⟩
  unfold T_period
  walk_at "wp"
  exact ⟨_, rfl, chain_req hc, c, rfl, hc, q⟩
/-! ### compare.py -/
def T_common_multiple : TS2 :=
  (dSeq (dPar 2 3 (dCons (dVar 0) (dCons (dVar 1) dNil)))
  (dSeq (dWhile (dTru (dVar 3)) (dPar 2 3 (dCons (dVar 3) (dCons (dOp qMod (dVar 2) (dVar 3)) dNil))))
  (dRet (dOp qFdiv (dOp qMul (dVar 0) (dVar 1)) (dVar 2)))))
theorem cdiv_of {i j : Int} (h : 0 < j) (h2 : j ≤ 10 ^ 18) : CDivW i j := wide_div (b := 64) h (by omega) (by decide) (by decide)
theorem pure_common_multiple : Pure 4 sp_common_multiple T_common_multiple := by
  rintro ds S Q E frg ⟨⟨a, b⟩, rfl, ⟨ha, hb, ha2, hb2⟩, q⟩
  unfold T_common_multiple
  walk_at "wp"
  refine wh_inv (fun (p : Nat × Nat) ds S' => S' = S ∧ ds = [some (.int a), some (.int b), some (.int p.1), some (.int p.2)] ∧ p.1.gcd p.2 = a.natAbs.gcd b.natAbs ∧ 0 < p.1) (fun p => p.2) ?_ (a := (a.natAbs, b.natAbs)) ?_
  · rintro ⟨m, n⟩ ds S' N ⟨rfl, rfl, hg, h0⟩ hN
    walk_at "wp"
    have hg : m.gcd n = a.natAbs.gcd b.natAbs := hg
    have h0 : 0 < m := h0
    refine ite2 (fun h => ?_) (fun h => ?_)
    · have hn : 0 < n := by
        have : (n : Int) ≠ 0 := by simpa using h
        omega
      refine ⟨by omega, hN (n, m % n) _ _ (Nat.mod_lt _ hn) ⟨rfl, by rw [Int.natCast_emod], ?_, hn⟩⟩
      rw [← hg]
      show n.gcd (m % n) = m.gcd n
      rw [Nat.gcd_comm m n, Nat.gcd_rec n m, Nat.gcd_comm]
    · have hn : n = 0 := by
        have : (n : Int) = 0 := by simpa using h
        omega
      subst hn
      rw [Nat.gcd_zero_right] at hg
      have hm : m ≤ a.natAbs := by
        rw [hg]
        exact Nat.gcd_le_left _ (by omega)
      refine ⟨.inl (by omega), cdiv_of (by omega) (by omega), ?_⟩
      have e : a * b / (m : Int) = lcmI a b := by
        have e1 : a = (a.natAbs : Int) := by omega
        have e2 : b = (b.natAbs : Int) := by omega
        unfold lcmI
        rw [Nat.lcm, ← hg]
        rw [Int.natCast_ediv, Int.natCast_mul, ← e1, ← e2]
      rw [e]
      exact q
  · refine ⟨rfl, ?_, rfl, by show 0 < a.natAbs; omega⟩
    have e1 : a = (a.natAbs : Int) := by omega
    have e2 : b = (b.natAbs : Int) := by omega
    show _ = [_, _, some (Dt.int ((a.natAbs : Nat) : Int)), some (Dt.int ((b.natAbs : Nat) : Int))]
    rw [← e1, ← e2]
def T_last_threshold : TS2 :=
  (dRet (dCB qMax2 (dCons (dCall sp_threshold_of (dCons (dVar 0) dNil)) (dCons (dCall sp_threshold_of (dCons (dVar 1) dNil)) dNil))))
theorem max_if (i j : Int) : (if j > i then j else i) = max i j := by
  by_cases h : j > i
  · rw [if_pos h]; omega
  · rw [if_neg h]; omega
theorem min_if (i j : Int) : (if j < i then j else i) = min i j := by
  by_cases h : j < i
  · rw [if_pos h]; omega
  · rw [if_neg h]; omega
theorem pure_last_threshold : Pure 2 sp_last_threshold T_last_threshold := by
  rintro ds S Q E frg ⟨⟨c, d⟩, rfl, ⟨hc, hd⟩, q⟩
  unfold T_last_threshold
  walk_at "wp"
  refine ⟨c, rfl, hc, d, rfl, hd, _, rfl, _, rfl, ?_⟩
  rw [max_if]
  exact q
def T_both_periods : TS2 :=
  (dRet (dCall sp_common_multiple (dCons (dCall sp_period_of (dCons (dVar 0) dNil)) (dCons (dCall sp_period_of (dCons (dVar 1) dNil)) dNil))))
theorem pure_both_periods : Pure 2 sp_both_periods T_both_periods := by
  rintro ds S Q E frg ⟨⟨c, d⟩, rfl, ⟨hc, hd⟩, q⟩
  unfold T_both_periods
  walk_at "wp"
  have hc : okC c := hc
  have hd : okC d := hd
  have h1 := per_pos hc
  have h2 := per_pos hd
  have h3 := per_le hc
  have h4 := per_le hd
  exact ⟨c, rfl, hc, d, rfl, hd, (per c, per d), rfl, ⟨h1, h2, by show per c ≤ _; omega, by show per d ≤ _; omega⟩, q⟩
def T_bound_for : TS2 :=
  (dRet (dOp qAdd (dCall sp_last_threshold (dCons (dVar 0) (dCons (dVar 1) dNil))) (dOp qMul (dC (.int 3)) (dCall sp_both_periods (dCons (dVar 0) (dCons (dVar 1) dNil))))))
theorem pure_bound_for : Pure 2 sp_bound_for T_bound_for := by
  rintro ds S Q E frg ⟨⟨c, d⟩, rfl, ⟨hc, hd⟩, q⟩
  unfold T_bound_for
  walk_at "wp"
  exact ⟨(c, d), rfl, ⟨hc, hd⟩, (c, d), rfl, ⟨hc, hd⟩, _, rfl, .inl (by omega), _, rfl, q⟩
def T_require_both : TS2 :=
  (dSeq (dDrop (dCall sp_require_chain (dCons (dVar 0) dNil)))
  (dDrop (dCall sp_require_chain (dCons (dVar 1) dNil))))
theorem pure_require_both : Pure 2 sp_require_both T_require_both := by
  rintro ds S Q E frg ⟨⟨c, d⟩, rfl, ⟨hc, hd⟩, q⟩
  unfold T_require_both
  walk_at "wp"
  exact ⟨_, rfl, chain_req hc, _, rfl, chain_req hd, q⟩
def T_compare_bound : TS2 :=
  (dSeq (dDrop (dCall sp_require_both (dCons (dVar 0) (dCons (dVar 1) dNil))))
  (dRet (dCall sp_bound_for (dCons (dVar 0) (dCons (dVar 1) dNil)))))
theorem pure_compare_bound : Pure 2 sp_compare_bound T_compare_bound := by
  rintro ds S Q E frg ⟨⟨c, d⟩, rfl, h, q⟩
  unfold T_compare_bound
  walk_at "wp"
  exact ⟨(c, d), rfl, h, (c, d), rfl, h, q⟩
end Sc

namespace Sc
open PySem PySem.Spec PyProof.Rows L2 Sm
local macro_rules | `(tactic| walk_at "wp") => `(tactic| simp only [dRet, dSeq, dIfS, dNext, dDrop, dSet, dAsg, dPar, dPar3, dAug, dVar, dC, dOp, dUn, dTest, dTru, dNot, dAnd, dOr, dAndV, dOrV, dNotV, dIf, dChain, dCall, dCons, dNil, dCB, dTup, dLst, dIsi, dStore, kSub, dYes, dFor, dIt, dItL, dRng1, dRng2, dSl, dNoP, dPart, dMt, dRaise,
  qI, qI0, qAdd, qSub, qMul, qFdiv, qFdivN, qMod, qPow, qLt, qLe, qGt, qGe, qEq, qNe, qIsN, qNotN, qIsB, qNotB, qNeg, qAbs, qMax2, qMin2, qLen, qIx, qTupOf, qLstOf, qSlT, qSlL, qCatT, qRepT, kName, kTup, kCons, kNil, start2, List.map_cons, List.map_nil, List.length_cons, List.length_nil, List.replicate, List.cons_append, List.nil_append, List.append_nil,
  List.getElem?_cons_zero, List.getElem?_cons_succ, List.set_cons_zero, List.set_cons_succ, Option.some.injEq, exists_eq_left', exists_eq_left, Dt.int.injEq, Dt.bl.injEq, Dt.ref.injEq, Dt.tup.injEq, Dt.lst.injEq, Nat.sub_zero, Nat.zero_add, Nat.reduceAdd, Nat.reduceSub, asQ_tup, asQ_lst, asL_lst, asT_tup, asQ_put, asL_put, exists_and_left, List.cons.injEq, and_true, isN_int, isN_non, truD_int, truD_non, at_0, at_1, at_2, ix20, ix21, Cells.put_same, Cells.put_put, Cell.lst.injEq, sEq_ii, sEq_bb, sEq_ss, sEq_nn, sEq_ni, sEq_in, true_and, decide_eq_true_eq, and_assoc])
/-! ### the law's draws -/
def T__law_bag : TS2 :=
  (dSeq (dSet 2 (dC (.int 0)))
  (dSeq (dIfS (dTest (dOp qLt (dVar 1) (dCB qLen (dCons (dVar 0) dNil)))) (dSet 2 (dOp qMod (dOp qIx (dVar 0) (dVar 1)) (dOp qPow (dC (.int 10)) (dC (.int 60))))) dNext)
  (dSeq (dSet 3 (dOp qAdd (dC (.int 1)) (dOp qMod (dOp qAdd (dOp qAdd (dOp qAdd (dOp qMul (dOp qMod (dVar 2) (dC (.int 2147483629))) (dC (.int 16807))) (dOp qMul (dOp qMul (dC (.int 40009)) (dVar 1)) (dVar 1))) (dOp qMul (dC (.int 7919)) (dVar 1))) (dC (.int 1009))) (dC (.int 2147483645)))))
  (dSeq (dIfS (dTest (dOp qLt (dVar 2) (dOp qPow (dC (.int 10)) (dC (.int 18))))) (dRet (dLst (dCons (dC (.int 0)) (dCons (dVar 3) dNil)))) dNext)
  (dRet (dLst (dCons (dVar 2) (dCons (dVar 3) dNil))))))))
theorem pure__law_bag : Pure 4 sp__law_bag T__law_bag := by
  rintro ds S Q E frg ⟨ns, k, rfl, hk0, hk1, q⟩
  unfold T__law_bag
  walk_at "wp"
  have p1 : CPow 10 60 := ⟨by decide, by decide, by decide⟩
  have p2 : CPow 10 18 := ⟨by decide, by decide, by decide⟩
  refine ite2 (fun h => ?_) (fun h => ?_)
  · obtain ⟨a, h1, h2, _⟩ := at_get hk0 h
    obtain ⟨i, _, rfl⟩ := List.mem_map.mp h2
    refine ⟨_, h1, p1, i, rfl, by decide, by decide, .inr (by omega), .inl (by omega), .inr (by omega), .inl (by omega), by decide, p2, ?_⟩
    exact ite2 (fun _ => ⟨by decide, .inr fun p hp => q p _ _ hp⟩) (fun _ => ⟨by decide, .inr fun p hp => q p _ _ hp⟩)
  · refine ⟨by decide, .inr (by omega), .inl (by omega), .inr (by omega), .inl (by omega), by decide, p2, ?_⟩
    exact ite2 (fun _ => ⟨by decide, .inr fun p hp => q p _ _ hp⟩) (fun _ => ⟨by decide, .inr fun p hp => q p _ _ hp⟩)
def T__law_take : TS2 :=
  (dSeq (dIfS (dTest (dOp qGt (dOp qIx (dVar 0) (dC (.int 0))) (dC (.int 0)))) (dSeq (dSet 2 (dOp qMod (dOp qIx (dVar 0) (dC (.int 0))) (dVar 1)))
  (dSeq (dStore (dOp qFdiv (dOp qIx (dVar 0) (dC (.int 0))) (dVar 1)) (dVar 0) (dC (.int 0)))
  (dRet (dVar 2)))) dNext)
  (dSeq (dStore (dOp qMod (dOp qMul (dOp qIx (dVar 0) (dC (.int 1))) (dC (.int 48271))) (dC (.int 2147483647))) (dVar 0) (dC (.int 1)))
  (dRet (dOp qMod (dOp qFdiv (dOp qMod (dOp qMul (dOp qFdiv (dOp qIx (dVar 0) (dC (.int 1))) (dC (.int 13))) (dOp qAdd (dOp qMod (dOp qIx (dVar 0) (dC (.int 1))) (dC (.int 32749))) (dC (.int 17)))) (dC (.int 2147483629))) (dC (.int 32))) (dVar 1)))))
theorem pure__law_take : Pure 3 sp__law_take T__law_take := by
  rintro ds S Q E frg ⟨b, n, rfl, ⟨c, s, hb⟩, ⟨hn, hn2⟩, q⟩
  unfold T__law_take
  walk_at "wp"
  simp only [asQ_ref hb, hb]
  walk_at "wp"
  have d1 : CDivW c n := cdiv_of hn (by omega)
  have q : ∀ (r c s : Int), 0 ≤ r ∧ r < n → Q (Dt.int r) (S.put b (Cell.lst [Dt.int c, Dt.int s])) := q
  refine ite2 (fun h => ?_) (fun h => ?_)
  · exact ⟨hn, d1, q _ _ _ ⟨Int.emod_nonneg _ (by omega), Int.emod_lt_of_pos _ hn⟩⟩
  · exact ⟨.inr (by omega), by decide, cdiv_of (by decide) (by decide), by decide, .inr (by omega), by decide, cdiv_of (by decide) (by decide), hn, q _ _ _ ⟨Int.emod_nonneg _ (by omega), Int.emod_lt_of_pos _ hn⟩⟩
def T__law_of : TS2 :=
  (dRet (dOp qIx (dVar 1) (dCall sp__law_take (dCons (dVar 0) (dCons (dCB qLen (dCons (dVar 1) dNil)) dNil)))))
theorem pure__law_of : Pure 2 sp__law_of T__law_of := by
  rintro ds S Q E frg ⟨b, l, rfl, hb, ⟨h1, h2⟩, q⟩
  unfold T__law_of
  walk_at "wp"
  refine ⟨b, (l.length : Int), rfl, hb, ⟨by omega, by omega⟩, fun r c s ⟨h3, h4⟩ => ?_⟩
  obtain ⟨a, k1, k2, _⟩ := at_get h3 h4
  exact ⟨_, rfl, _, k1, q a c s k2⟩
def T__law_bound : TS2 :=
  (dRet (dCall sp__law_of (dCons (dVar 0) (dCons (dLst (dCons (dC .non) (dCons (dC .non) (dCons (dC (.int 0)) (dCons (dC (.int 1)) (dCons (dUn qNeg (dC (.int 1))) (dCons (dCall sp__law_take (dCons (dVar 0) (dCons (dOp qAdd (dVar 1) (dC (.int 1))) dNil))) (dCons (dOp qSub (dC (.int 0)) (dCall sp__law_take (dCons (dVar 0) (dCons (dOp qAdd (dVar 1) (dC (.int 1))) dNil)))) dNil)))))))) dNil))))
theorem pure__law_bound : Pure 2 sp__law_bound T__law_bound := by
  rintro ds S Q E frg ⟨b, w, rfl, hb, ⟨h1, h2⟩, q⟩
  unfold T__law_bound
  walk_at "wp"
  refine ⟨b, w + 1, rfl, hb, ⟨by omega, by omega⟩, fun r c s ⟨h3, h4⟩ => ?_⟩
  refine ⟨b, w + 1, rfl, Bag.put, ⟨by omega, by omega⟩, fun r2 c2 s2 ⟨h5, h6⟩ => ⟨_, rfl, ?_⟩⟩
  refine ⟨by decide, .inl ⟨b, _, rfl, Bag.put, ⟨by show 0 < 7; decide, by show 7 ≤ 100000; decide⟩, fun d c3 s3 hd => ?_⟩⟩
  rw [Cells.put_put, Cells.put_put]
  have q : ∀ (r : Option Int) (c s : Int), inW w r → Q (dO r) (S.put b (Cell.lst [Dt.int c, Dt.int s])) := q
  have num : ∀ i : Int, -w ≤ i ∧ i ≤ w → Q (.int i) (S.put b (Cell.lst [Dt.int c3, Dt.int s3])) := fun i hi => q (some i) c3 s3 fun j hj => by
    cases hj
    exact hi
  simp only [List.mem_cons, List.not_mem_nil, or_false] at hd
  rcases hd with rfl | rfl | rfl | rfl | rfl | rfl | rfl
  · exact q none c3 s3 fun j hj => nomatch hj
  · exact q none c3 s3 fun j hj => nomatch hj
  · exact num 0 (by omega)
  · exact num 1 (by omega)
  · exact num (-1) (by omega)
  · exact num r (by omega)
  · exact num (0 - r2) (by omega)
def T__law_slice : TS2 :=
  (dRet (dTup (dCons (dCall sp__law_bound (dCons (dVar 0) (dCons (dVar 1) dNil))) (dCons (dCall sp__law_bound (dCons (dVar 0) (dCons (dVar 1) dNil))) (dCons (dCall sp__law_of (dCons (dVar 0) (dCons (dLst (dCons (dC (.int 1)) (dCons (dC (.int 1)) (dCons (dC (.int 2)) (dCons (dUn qNeg (dC (.int 1))) (dCons (dUn qNeg (dC (.int 2))) (dCons (dC (.int 3)) (dCons (dUn qNeg (dC (.int 3))) dNil)))))))) dNil))) dNil)))))
theorem pure__law_slice : Pure 2 sp__law_slice T__law_slice := by
  rintro ds S Q E frg ⟨b, w, rfl, hb, hw, q⟩
  unfold T__law_slice
  walk_at "wp"
  refine ⟨b, w, rfl, hb, hw, fun r c s h1 => ?_⟩
  refine ⟨b, w, rfl, Bag.put, hw, fun r2 c2 s2 h2 => ?_⟩
  refine ⟨by decide, .inl ⟨b, _, rfl, Bag.put, ⟨by decide, by decide⟩, fun d c3 s3 hd => ⟨by decide, ?_⟩⟩⟩
  rw [Cells.put_put, Cells.put_put]
  have q : ∀ (r : Sl) (c s : Int), slW w r → Q (dS r) (S.put b (Cell.lst [Dt.int c, Dt.int s])) := q
  have num : ∀ i : Int, -3 ≤ i ∧ i ≤ 3 ∧ i ≠ 0 → Q (.tup [dO r, dO r2, .int i]) (S.put b (Cell.lst [Dt.int c3, Dt.int s3])) := fun i hi => q (r, r2, i) c3 s3 ⟨h1, h2, hi.1, hi.2.1, hi.2.2⟩
  simp only [List.mem_cons, List.not_mem_nil, or_false] at hd
  rcases hd with rfl | rfl | rfl | rfl | rfl | rfl | rfl <;> exact num _ (by decide)
def T__law_chain : TS2 :=
  (dRet (dCB qTupOf (dCons (dLc (dRng1 (dCall sp__law_take (dCons (dVar 0) (dCons (dOp qAdd (dVar 1) (dC (.int 1))) dNil)))) (kName 3) dYes (dCall sp__law_slice (dCons (dVar 0) (dCons (dVar 2) dNil)))) dNil)))
/-- a comprehension over range(a draw) -/
theorem pure__law_chain : Pure 4 sp__law_chain T__law_chain := by
  rintro ds S Q E frg ⟨b, ⟨m, w⟩, rfl, hb, ⟨h1, h2, hw⟩, q⟩
  have h1 : 0 ≤ m := h1
  have h2 : m ≤ 100 := h2
  unfold T__law_chain
  walk_at "wp"
  unfold dLc
  walk_at "wp"
  refine ⟨b, m + 1, rfl, hb, ⟨by omega, by omega⟩, fun r c s ⟨h3, h4⟩ => ⟨_, rfl, by omega, by omega, ?_⟩⟩
  refine bag_comp dS (slW w) (b := b) Bag.put (by rw [rng_len]; omega) (fun d hd S R hb2 r2 => ?_) (fun l c2 s2 hl hg => ⟨_, rfl, ?_⟩)
  · walk_at "wp"
    exact ⟨b, w, rfl, hb2, hw, r2⟩
  · rw [Cells.put_put]
    refine q l c2 s2 ⟨?_, hg⟩
    rw [hl, rng_len]
    show ((r.toNat : Nat) : Int) ≤ m
    omega
def T__law_part : TS2 :=
  (dSeq (dAsg (dVar 0) (kTup 3 (kCons (kName 2) (kCons (kName 3) (kCons (kName 4) kNil)))))
  (dSeq (dIfS (dTest (dOp qGt (dVar 4) (dC (.int 0)))) (dSeq (dSet 5 (dIf (dTest (dOp qIsN (dVar 2) (dC .non))) (dC (.int 0)) (dIf (dTest (dOp qLt (dVar 2) (dC (.int 0)))) (dCB qMax2 (dCons (dC (.int 0)) (dCons (dOp qAdd (dVar 2) (dVar 1)) dNil))) (dCB qMin2 (dCons (dVar 2) (dCons (dVar 1) dNil))))))
  (dSeq (dSet 6 (dIf (dTest (dOp qIsN (dVar 3) (dC .non))) (dVar 1) (dIf (dTest (dOp qLt (dVar 3) (dC (.int 0)))) (dCB qMax2 (dCons (dC (.int 0)) (dCons (dOp qAdd (dVar 3) (dVar 1)) dNil))) (dCB qMin2 (dCons (dVar 3) (dCons (dVar 1) dNil))))))
  (dRet (dTup (dCons (dVar 5) (dCons (dOp qFdiv (dOp qSub (dOp qAdd (dCB qMax2 (dCons (dC (.int 0)) (dCons (dOp qSub (dVar 6) (dVar 5)) dNil))) (dVar 4)) (dC (.int 1))) (dVar 4)) dNil)))))) dNext)
  (dSeq (dSet 5 (dIf (dTest (dOp qIsN (dVar 2) (dC .non))) (dOp qSub (dVar 1) (dC (.int 1))) (dIf (dTest (dOp qLt (dVar 2) (dC (.int 0)))) (dCB qMax2 (dCons (dUn qNeg (dC (.int 1))) (dCons (dOp qAdd (dVar 2) (dVar 1)) dNil))) (dCB qMin2 (dCons (dVar 2) (dCons (dOp qSub (dVar 1) (dC (.int 1))) dNil))))))
  (dSeq (dSet 6 (dIf (dTest (dOp qIsN (dVar 3) (dC .non))) (dUn qNeg (dC (.int 1))) (dIf (dTest (dOp qLt (dVar 3) (dC (.int 0)))) (dCB qMax2 (dCons (dUn qNeg (dC (.int 1))) (dCons (dOp qAdd (dVar 3) (dVar 1)) dNil))) (dCB qMin2 (dCons (dVar 3) (dCons (dOp qSub (dVar 1) (dC (.int 1))) dNil))))))
  (dRet (dTup (dCons (dVar 5) (dCons (dOp qFdiv (dOp qSub (dOp qAdd (dCB qMax2 (dCons (dC (.int 0)) (dCons (dOp qSub (dVar 5) (dVar 6)) dNil))) (dCB qAbs (dCons (dVar 4) dNil))) (dC (.int 1))) (dCB qAbs (dCons (dVar 4) dNil))) dNil))))))))
theorem pure__law_part : Pure 7 sp__law_part T__law_part := by
  rintro ds S Q E frg ⟨⟨⟨a, b, t⟩, c⟩, rfl, ⟨hs, hc⟩, q⟩
  have hc : 0 ≤ c := hc
  have ht := hs.2.2
  have ht : -3 ≤ t ∧ t ≤ 3 ∧ t ≠ 0 := ht
  have q : Q (.tup [.int (endsOf (a, b, t) c).1, .int (manyOf (a, b, t) c)]) S := q
  unfold T__law_part
  simp only [dS_eq]
  by_cases h0 : 0 < t
  · rw [ends_pos h0, many_pos h0, ← div_max h0] at q
    cases a <;> cases b <;> (simp only [dO, begP, endP, moved_pos hc] at q ⊢; walk_at "wp"; rw [if_pos h0]; simp only [max_if, min_if, Bool.false_eq_true, if_true, if_false])
    · exact ⟨cdiv_of h0 (by omega), by decide, q⟩
    · split <;> rename_i h <;> simp only [h, if_true, if_false] at q <;> exact ⟨cdiv_of h0 (by omega), by decide, q⟩
    · split <;> rename_i h <;> simp only [h, if_true, if_false] at q <;> exact ⟨cdiv_of h0 (by omega), by decide, q⟩
    · split <;> split <;> rename_i h h' <;> simp only [h, h', if_true, if_false] at q <;> exact ⟨cdiv_of h0 (by omega), by decide, q⟩
  · have hn : 0 < -t := by omega
    have ea : (t.natAbs : Int) = -t := by omega
    have e4 : begN a c - endN b c - t - 1 = begN a c - endN b c + -t - 1 := by omega
    rw [ends_neg h0, many_neg h0, e4, ← div_max hn] at q
    cases a <;> cases b <;> (simp only [dO, begN, endN, moved_neg hc] at q ⊢; walk_at "wp"; rw [if_neg h0]; simp only [max_if, min_if, abs_int, ea, Bool.false_eq_true, if_true, if_false])
    · exact ⟨cdiv_of hn (by omega), by decide, q⟩
    · split <;> rename_i h <;> simp only [h, if_true, if_false] at q <;> exact ⟨cdiv_of hn (by omega), by decide, q⟩
    · split <;> rename_i h <;> simp only [h, if_true, if_false] at q <;> exact ⟨cdiv_of hn (by omega), by decide, q⟩
    · split <;> split <;> rename_i h h' <;> simp only [h, h', if_true, if_false] at q <;> exact ⟨cdiv_of hn (by omega), by decide, q⟩
end Sc

namespace Sc
open PySem PySem.Spec PyProof.Rows L2 Sm
local macro_rules | `(tactic| walk_at "wp") => `(tactic| simp only [dRet, dSeq, dIfS, dNext, dDrop, dSet, dAsg, dPar, dPar3, dAug, dVar, dC, dOp, dUn, dTest, dTru, dNot, dAnd, dOr, dAndV, dOrV, dNotV, dIf, dChain, dCall, dCons, dNil, dCB, dTup, dLst, dIsi, dStore, kSub, dYes, dFor, dIt, dItL, dRng1, dRng2, dSl, dNoP, dPart, dMt, dRaise,
  qI, qI0, qAdd, qSub, qMul, qFdiv, qFdivN, qMod, qPow, qLt, qLe, qGt, qGe, qEq, qNe, qIsN, qNotN, qIsB, qNotB, qNeg, qAbs, qMax2, qMin2, qLen, qIx, qTupOf, qLstOf, qSlT, qSlL, qCatT, qRepT, kName, kTup, kCons, kNil, start2, List.map_cons, List.map_nil, List.length_cons, List.length_nil, List.replicate, List.cons_append, List.nil_append, List.append_nil,
  List.getElem?_cons_zero, List.getElem?_cons_succ, List.set_cons_zero, List.set_cons_succ, Option.some.injEq, exists_eq_left', exists_eq_left, Dt.int.injEq, Dt.bl.injEq, Dt.ref.injEq, Dt.tup.injEq, Dt.lst.injEq, Nat.sub_zero, Nat.zero_add, Nat.reduceAdd, Nat.reduceSub, asQ_tup, asQ_lst, asL_lst, asT_tup, asQ_put, asL_put, exists_and_left, List.cons.injEq, and_true, isN_int, isN_non, truD_int, truD_non, at_0, at_1, at_2, ix20, ix21, Cells.put_same, Cells.put_put, Cell.lst.injEq, sEq_ii, sEq_bb, sEq_ss, sEq_nn, sEq_ni, sEq_in, true_and, decide_eq_true_eq, and_assoc])

def T__law_weights : TS2 :=
  (dSeq (dAsg (dTup (dCons (dC (.int 0)) (dCons (dC (.int 1)) dNil))) (kTup 2 (kCons (kName 1) (kCons (kName 2) kNil))))
  (dSeq (dFor (dIt (dVar 0)) (kTup 3 (kCons (kName 3) (kCons (kName 4) (kCons (kName 5) kNil)))) (dSeq (dSet 1 (dOp qAdd (dVar 1) (dOp qMul (dVar 2) (dOp qAdd (dOp qAdd (dC (.int 1)) (dCB qAbs (dCons (dOrT (dVar 3) (dC (.int 0))) dNil))) (dCB qAbs (dCons (dOrT (dVar 4) (dC (.int 0))) dNil))))))
  (dSet 2 (dOp qMul (dVar 2) (dCB qAbs (dCons (dVar 5) dNil))))))
  (dRet (dTup (dCons (dVar 1) (dCons (dVar 2) dNil))))))

theorem pure__law_weights : Pure 6 sp__law_weights T__law_weights := by
  rintro ds S Q E frg ⟨c, rfl, hc, q⟩
  unfold T__law_weights
  walk_at "wp"
  refine ⟨by decide, _, rfl, ?_⟩
  refine loop_fold dS (fun (b : Int × Int) ds S' => S' = S ∧ ∃ u v w, ds = [some (dCh c), some (.int b.1), some (.int b.2), u, v, w]) (fun p s => (p.1 + p.2 * (1 + absB s.1 + absB s.2.1), p.2 * (s.2.2.natAbs : Int))) (b := (0, 1)) ⟨rfl, _, _, _, rfl⟩ ?_ ?_
  · rintro b s ds S' N hs ⟨rfl, u, v, w, rfl⟩ hN
    rw [dS_eq]
    walk_at "wp"
    refine or0 rfl ?_
    walk_at "wp"
    refine or0 rfl ?_
    walk_at "wp"
    rw [abs_eq, abs_eq, abs_int]
    have o := hc.2 s hs
    have b1 := absB_nn s.1
    have b2 := absB_nn s.2.1
    have b3 := absB_le o.1
    have b4 := absB_le o.2.1
    have h4 := o.2.2
    exact ⟨.inr (by omega), .inr (by omega), hN _ _ ⟨rfl, _, _, _, rfl⟩⟩
  · rintro ds S' ⟨rfl, u, v, w, rfl⟩
    exact ⟨_, rfl, _, rfl, by decide, q⟩
def T__law_multiple : TS2 :=
  (dSeq (dSet 2 (dVar 0))
  (dSeq (dWhile (dTest (dOp qNe (dOp qMod (dVar 2) (dVar 1)) (dC (.int 0)))) (dSet 2 (dOp qAdd (dVar 2) (dVar 0))))
  (dRet (dVar 2))))

theorem lcm_le_of {a b k : Nat} (ha : 0 < a) (hk : 0 < k) (h : a * k % b = 0) : a.lcm b ≤ a * k :=
  Nat.le_of_dvd (Nat.mul_pos ha hk) (Nat.lcm_dvd (Nat.dvd_mul_right a k) (Nat.dvd_of_mod_eq_zero h))
theorem pure__law_multiple : Pure 3 sp__law_multiple T__law_multiple := by
  rintro ds S Q E frg ⟨⟨a, b⟩, rfl, ⟨ha, hb⟩, q⟩
  have ha : 0 < a := ha
  have hb : 0 < b := hb
  obtain ⟨A, rfl⟩ : ∃ A : Nat, a = (A : Int) := ⟨a.natAbs, by omega⟩
  obtain ⟨B, rfl⟩ : ∃ B : Nat, b = (B : Int) := ⟨b.natAbs, by omega⟩
  have hA : 0 < A := by omega
  have hB : 0 < B := by omega
  obtain ⟨L, hL⟩ := Nat.dvd_lcm_left A B
  have q : Q (.int ((A.lcm B : Nat) : Int)) S := q
  unfold T__law_multiple
  walk_at "wp"
  have hL0 : 0 < L := by
    rcases Nat.eq_zero_or_pos L with e | e
    · rw [e, Nat.mul_zero] at hL
      have := Nat.lcm_pos hA hB
      omega
    · exact e
  refine wh_inv (fun (k : Nat) ds S' => S' = S ∧ ds = [some (.int A), some (.int B), some (.int ((A * k : Nat) : Int))] ∧ 0 < k ∧ k ≤ L) (fun k => L - k) ?_ (a := 1) ⟨rfl, by rw [Nat.mul_one], by decide, hL0⟩
  rintro k ds S' N ⟨rfl, rfl, hk, hl⟩ hN
  walk_at "wp"
  refine ⟨by omega, ite2 (fun h => ?_) (fun h => ?_)⟩
  · have h1 : ¬ (A * k) % B = 0 := by
      intro e
      have : ((A * k : Nat) : Int) % (B : Int) = 0 := by rw [← Int.natCast_emod, e]; rfl
      rw [this] at h
      exact absurd h (by decide)
    have h2 : k ≠ L := by
      intro e
      rw [e, ← hL] at h1
      exact h1 (Nat.mod_eq_zero_of_dvd (Nat.dvd_lcm_right A B))
    refine hN (k + 1) _ _ (by omega) ⟨rfl, ?_, by omega, by omega⟩
    rw [Nat.mul_succ, Int.natCast_add]
  · have h1 : (A * k) % B = 0 := by
      have : ((A * k : Nat) : Int) % (B : Int) = 0 := by simpa using h
      rw [← Int.natCast_emod] at this
      omega
    have h2 := lcm_le_of hA hk h1
    have h3 : A * k ≤ A * L := Nat.mul_le_mul_left A hl
    have h4 : A * k = A.lcm B := by omega
    rw [h4]
    exact q
def T__law_limit : TS2 :=
  (dSeq (dPar 2 3 (dCons (dCall sp__law_weights (dCons (dVar 0) dNil)) (dCons (dCall sp__law_weights (dCons (dVar 1) dNil)) dNil)))
  (dRet (dTup (dCons (dCB qMax2 (dCons (dOp qIx (dVar 2) (dC (.int 0))) (dCons (dOp qIx (dVar 3) (dC (.int 0))) dNil))) (dCons (dCall sp__law_multiple (dCons (dOp qIx (dVar 2) (dC (.int 1))) (dCons (dOp qIx (dVar 3) (dC (.int 1))) dNil))) dNil)))))

theorem pure__law_limit : Pure 4 sp__law_limit T__law_limit := by
  rintro ds S Q E frg ⟨⟨c, d⟩, rfl, ⟨hc, hd⟩, q⟩
  unfold T__law_limit
  walk_at "wp"
  have hc : okC c := hc
  have hd : okC d := hd
  refine ⟨c, rfl, hc, d, rfl, hd, ?_⟩
  walk_at "wp"
  refine ⟨(per c, per d), rfl, ⟨per_pos hc, per_pos hd⟩, ?_⟩
  rw [max_if]
  exact ⟨by decide, q⟩
end Sc

namespace Sm
theorem moved_in {b c lo hi : Int} (h : lo ≤ hi) : lo ≤ moved b c lo hi ∧ moved b c lo hi ≤ hi := by
  unfold moved
  omega
theorem begP_in {o : Option Int} {c : Int} (h : 0 ≤ c) : 0 ≤ begP o c ∧ begP o c ≤ c := by
  cases o with
  | none => exact ⟨Int.le_refl _, h⟩
  | some b => exact moved_in h
theorem endP_in {o : Option Int} {c : Int} (h : 0 ≤ c) : 0 ≤ endP o c ∧ endP o c ≤ c := by
  cases o with
  | none => exact ⟨h, Int.le_refl _⟩
  | some b => exact moved_in h
theorem begN_in {o : Option Int} {c : Int} (h : 0 ≤ c) : -1 ≤ begN o c ∧ begN o c ≤ c - 1 := by
  cases o with
  | none => exact ⟨by show -1 ≤ c - 1; omega, Int.le_refl _⟩
  | some b => exact moved_in (by omega)
theorem endN_in {o : Option Int} {c : Int} (h : 0 ≤ c) : -1 ≤ endN o c ∧ endN o c ≤ c - 1 := by
  cases o with
  | none => exact ⟨Int.le_refl _, by show -1 ≤ c - 1; omega⟩
  | some b => exact moved_in (by omega)
theorem ceil_le {x t : Int} (h : 0 < t) : max 0 ((x + t - 1) / t) ≤ max 0 x := by
  by_cases hx : 0 < x
  · have : (x + t - 1) / t < x + 1 := by
      refine Int.ediv_lt_of_lt_mul h ?_
      have : (x - 1) * 1 ≤ (x - 1) * t := Int.mul_le_mul_of_nonneg_left (by omega) (by omega)
      have e : (x + 1) * t = (x - 1) * t + t + t := by rw [Int.add_mul, Int.sub_mul]; omega
      rw [e]
      omega
    omega
  · have : (x + t - 1) / t < 1 := Int.ediv_lt_of_lt_mul h (by omega)
    omega
theorem many_le {s : Sl} {c : Int} (hs : okS s) (h : 0 ≤ c) : manyOf s c ≤ c := by
  obtain ⟨a, b, t⟩ := s
  have ht : t ≠ 0 := hs.2.2.2.2
  by_cases h0 : 0 < t
  · rw [many_pos h0]
    have := ceil_le (x := endP b c - begP a c) h0
    have := begP_in (o := a) h
    have := endP_in (o := b) h
    omega
  · rw [many_neg h0]
    have e : begN a c - endN b c - t - 1 = begN a c - endN b c + (-t) - 1 := by omega
    rw [e]
    have := ceil_le (x := begN a c - endN b c) (t := -t) (by omega)
    have := begN_in (o := a) h
    have := endN_in (o := b) h
    omega
theorem ends_in {s : Sl} {c : Int} (h : 0 ≤ c) : -1 ≤ (endsOf s c).1 ∧ (endsOf s c).1 ≤ c := by
  obtain ⟨a, b, t⟩ := s
  by_cases h0 : 0 < t
  · rw [ends_pos h0]
    have := begP_in (o := a) h
    exact ⟨by show -1 ≤ begP a c; omega, this.2⟩
  · rw [ends_neg h0]
    have := begN_in (o := a) h
    exact ⟨this.1, by show begN a c ≤ c; omega⟩
theorem shownF_cons (s : Sl) (c : List Sl) (p : Pg) : shownF (s :: c) p = shownF c (applied s p) := rfl
theorem shownF_app (c d : List Sl) (p : Pg) : shownF (c ++ d) p = shownF d (shownF c p) := List.foldl_append
theorem shown_app (c d : List Sl) (n : Int) : shown (c ++ d) n = shownF d (shown c n) := List.foldl_append
theorem shownF_count : ∀ (c : List Sl) (p : Pg), (∀ s, s ∈ c → okS s) → 0 ≤ p.2.2 → 0 ≤ (shownF c p).2.2 ∧ (shownF c p).2.2 ≤ p.2.2
  | [], p, _, h => ⟨h, Int.le_refl _⟩
  | s :: c, p, hc, h => by
    have z := shownF_count c (applied s p) (fun s hs => hc s (List.mem_cons_of_mem _ hs)) (many_nn _ _)
    have m : (applied s p).2.2 ≤ p.2.2 := many_le (hc s List.mem_cons_self) h
    rw [shownF_cons]
    omega
theorem okC_app {c d : List Sl} (hc : okC c) (hd : okC d) (h : c.length + d.length ≤ 4) : okC (c ++ d) := by
  refine ⟨by rw [List.length_append]; exact h, fun s hs => ?_⟩
  rcases List.mem_append.mp hs with hs | hs
  · exact hc.2 s hs
  · exact hd.2 s hs
theorem search_congr {p q : Int → Bool} (h : ∀ i, p i = q i) : ∀ (a : Int) (m : Nat), search p a m = search q a m
  | _, 0 => rfl
  | a, m + 1 => by
    unfold search
    rw [h a, search_congr h]
theorem unlike_comm (c d : List Sl) (n : Int) : unlike c d n = unlike d c n := by
  unfold unlike
  rw [decide_eq_decide]
  exact ⟨fun h e => h e.symm, fun h e => h e.symm⟩
theorem bnd_comm (c d : List Sl) : bnd c d = bnd d c := by
  unfold bnd lastT bothP lcmI
  rw [Nat.lcm_comm, Int.max_comm]
theorem firstD_comm (c d : List Sl) : firstD c d = firstD d c := by
  unfold firstD
  rw [bnd_comm c d, search_congr (unlike_comm c d)]
theorem search_succ {p : Int → Bool} {a : Int} {m : Nat} : search p a (m + 1) = if p a = true then some a else search p (a + 1) m := rfl
theorem search_none {p : Int → Bool} : ∀ (a : Int) (m : Nat), search p a m = none ↔ ∀ i, a ≤ i → i < a + m → p i = false
  | a, 0 => ⟨fun _ i h1 h2 => by omega, fun _ => rfl⟩
  | a, m + 1 => by
    unfold search
    by_cases h : p a = true
    · rw [if_pos h]
      refine ⟨fun e => by (cases e), fun z => ?_⟩
      rw [z a (Int.le_refl _) (by omega)] at h
      cases h
    · rw [if_neg h, search_none (a + 1) m]
      refine ⟨fun z i h1 h2 => ?_, fun z i h1 h2 => z i (by omega) (by omega)⟩
      by_cases e : i = a
      · subst e; simpa using h
      · exact z i (by omega) (by omega)
theorem search_some {p : Int → Bool} : ∀ (a : Int) (m : Nat) (i : Int), search p a m = some i → a ≤ i ∧ i < a + m ∧ p i = true ∧ ∀ j, a ≤ j → j < i → p j = false
  | a, 0, i, e => by cases e
  | a, m + 1, i, e => by
    unfold search at e
    by_cases h : p a = true
    · rw [if_pos h] at e
      cases e
      exact ⟨Int.le_refl _, by omega, h, fun j h1 h2 => by omega⟩
    · rw [if_neg h] at e
      obtain ⟨h1, h2, h3, h4⟩ := search_some (a + 1) m i e
      refine ⟨by omega, by omega, h3, fun j k1 k2 => ?_⟩
      by_cases e : j = a
      · subst e; simpa using h
      · exact h4 j (by omega) k2
theorem firstD_self (c : List Sl) : firstD c c = none := by
  unfold firstD
  rw [search_none]
  intro i _ _
  unfold unlike
  simp
end Sm

namespace Sc
open PySem PySem.Spec PyProof.Rows L2 Sm
local macro_rules | `(tactic| walk_at "wp") => `(tactic| simp only [dRet, dSeq, dIfS, dNext, dDrop, dSet, dAsg, dPar, dPar3, dAug, dVar, dC, dOp, dUn, dTest, dTru, dNot, dAnd, dOr, dAndV, dOrV, dNotV, dIf, dChain, dCall, dCons, dNil, dCB, dTup, dLst, dIsi, dStore, kSub, dYes, dFor, dIt, dItL, dRng1, dRng2, dSl, dNoP, dPart, dMt, dRaise,
  qI, qI0, qAdd, qSub, qMul, qFdiv, qFdivN, qMod, qPow, qLt, qLe, qGt, qGe, qEq, qNe, qIsN, qNotN, qIsB, qNotB, qNeg, qAbs, qMax2, qMin2, qLen, qIx, qTupOf, qLstOf, qSlT, qSlL, qCatT, qRepT, kName, kTup, kCons, kNil, start2, List.map_cons, List.map_nil, List.length_cons, List.length_nil, List.replicate, List.cons_append, List.nil_append, List.append_nil,
  List.getElem?_cons_zero, List.getElem?_cons_succ, List.set_cons_zero, List.set_cons_succ, Option.some.injEq, exists_eq_left', exists_eq_left, Dt.int.injEq, Dt.bl.injEq, Dt.ref.injEq, Dt.tup.injEq, Dt.lst.injEq, Nat.sub_zero, Nat.zero_add, Nat.reduceAdd, Nat.reduceSub, asQ_tup, asQ_lst, asL_lst, asT_tup, asQ_put, asL_put, exists_and_left, List.cons.injEq, and_true, isN_int, isN_non, truD_int, truD_non, at_0, at_1, at_2, ix20, ix21, Cells.put_same, Cells.put_put, Cell.lst.injEq, sEq_ii, sEq_bb, sEq_ss, sEq_nn, sEq_ni, sEq_in, true_and, decide_eq_true_eq, and_assoc])


/-! ### far.py -/
def sp_moved : Sp2 := psp (α := Int × Int × Int × Int) (fun a => [.int a.1, .int a.2.1, .int a.2.2.1, .int a.2.2.2]) (fun _ => True) (fun a => .int (moved a.1 a.2.1 a.2.2.1 a.2.2.2))
def sp_ends : Sp2 := psp (α := Sl × Int) (fun a => [dS a.1, .int a.2]) (fun _ => True) (fun a => .tup [.int (endsOf a.1 a.2).1, .int (endsOf a.1 a.2).2])
def sp_applied : Sp2 := psp (α := Sl × Pg) (fun a => [dS a.1, dPg a.2]) (fun a => okS a.1 ∧ 0 ≤ a.2.2.2 ∧ a.2.2.2 ≤ 10 ^ 18) (fun a => dPg (applied a.1 a.2))
def sp_shown_by : Sp2 := psp (α := List Sl × Int) (fun a => [dCh a.1, .int a.2]) (fun a => (∀ s, s ∈ a.1 → okS s) ∧ 0 ≤ a.2 ∧ a.2 ≤ 10 ^ 18) (fun a => dPg (shown a.1 a.2))
def sp_cleaned : Sp2 := psp (α := Pg) (fun a => [dPg a]) (fun _ => True) (fun a => dCl (cleaned a))
def sp_clean : Sp2 := psp (α := List Sl × Int) (fun a => [dCh a.1, .int a.2]) (fun a => (∀ s, s ∈ a.1 → okS s) ∧ 0 ≤ a.2 ∧ a.2 ≤ 10 ^ 18) (fun a => dCl (clean a.1 a.2))
def sp_agree_at : Sp2 := psp (α := List Sl × List Sl × Int) (fun a => [dCh a.1, dCh a.2.1, .int a.2.2]) (fun a => (∀ s, s ∈ a.1 → okS s) ∧ (∀ s, s ∈ a.2.1 → okS s) ∧ 0 ≤ a.2.2 ∧ a.2.2 ≤ 10 ^ 18) (fun a => .bl (decide (clean a.1 a.2.2 = clean a.2.1 a.2.2)))
def sp_first_difference : Sp2 := psp (α := List Sl × List Sl) (fun a => [dCh a.1, dCh a.2]) (fun a => okC a.1 ∧ okC a.2) (fun a => dO (firstD a.1 a.2))
def sp_are_equal : Sp2 := psp (α := List Sl × List Sl) (fun a => [dCh a.1, dCh a.2]) (fun a => okC a.1 ∧ okC a.2) (fun a => .bl (firstD a.1 a.2).isNone)
def sp_equal : Sp2 := psp (α := List Sl × List Sl) (fun a => [dCh a.1, dCh a.2]) (fun a => okC a.1 ∧ okC a.2) (fun a => .bl (firstD a.1 a.2).isNone)
def sp_difference : Sp2 := psp (α := List Sl × List Sl) (fun a => [dCh a.1, dCh a.2]) (fun a => okC a.1 ∧ okC a.2) (fun a => dO (firstD a.1 a.2))
theorem dPg_eq (p : Pg) : dPg p = .tup [.int p.1, .int p.2.1, .int p.2.2] := rfl
theorem bnd_le {c d : List Sl} (hc : okC c) (hd : okC d) : 0 ≤ bnd c d ∧ bnd c d ≤ 40000 := by
  unfold bnd lastT bothP lcmI
  have h1 := thr_le hc
  have h2 := thr_le hd
  have h3 := thr_nn hc
  have h5 := per_pos hc
  have h6 := per_pos hd
  have h7 := per_le hc
  have h8 := per_le hd
  have z : (per c).natAbs.lcm (per d).natAbs ≤ (per c).natAbs * (per d).natAbs := Nat.le_of_dvd (Nat.mul_pos (by omega) (by omega)) (Nat.lcm_dvd (Nat.dvd_mul_right _ _) (Nat.dvd_mul_left _ _))
  have y : (per c).natAbs * (per d).natAbs ≤ 81 * 81 := Nat.mul_le_mul (by omega) (by omega)
  omega
theorem isN_dO {o : Option Int} : isN (dO o) = o.isNone := by cases o <;> rfl
def T_moved : TS2 :=
  (dSeq (dSet 4 (dIf (dTest (dOp qLt (dVar 0) (dC (.int 0)))) (dOp qAdd (dVar 0) (dVar 1)) (dVar 0)))
  (dRet (dCB qMax2 (dCons (dVar 2) (dCons (dCB qMin2 (dCons (dVar 3) (dCons (dVar 4) dNil))) dNil)))))
theorem pure_moved : Pure 5 sp_moved T_moved := by
  rintro ds S Q E frg ⟨⟨b, c, lo, hi⟩, rfl, -, q⟩
  have q : Q (.int (max lo (min hi (if b < 0 then b + c else b)))) S := q
  unfold T_moved
  walk_at "wp"
  refine ite2 (fun h => ?_) (fun h => ?_)
  · rw [if_pos h] at q
    simp only [max_if, min_if]
    rw [Int.max_comm]
    have e : min hi (b + c) = min hi (b + c) := rfl
    first
      | exact q
      | (rw [Int.max_comm]; exact q)
  · rw [if_neg h] at q
    simp only [max_if, min_if]
    first
      | exact q
      | (rw [Int.max_comm]; exact q)
def T_ends : TS2 :=
  (dSeq (dAsg (dVar 0) (kTup 3 (kCons (kName 2) (kCons (kName 3) (kCons (kName 4) kNil)))))
  (dSeq (dIfS (dTest (dOp qGt (dVar 4) (dC (.int 0)))) (dSeq (dSet 5 (dIf (dTest (dOp qIsN (dVar 2) (dC .non))) (dC (.int 0)) (dCall sp_moved (dCons (dVar 2) (dCons (dVar 1) (dCons (dC (.int 0)) (dCons (dVar 1) dNil)))))))
  (dRet (dTup (dCons (dVar 5) (dCons (dIf (dTest (dOp qIsN (dVar 3) (dC .non))) (dVar 1) (dCall sp_moved (dCons (dVar 3) (dCons (dVar 1) (dCons (dC (.int 0)) (dCons (dVar 1) dNil)))))) dNil))))) dNext)
  (dSeq (dSet 5 (dIf (dTest (dOp qIsN (dVar 2) (dC .non))) (dOp qSub (dVar 1) (dC (.int 1))) (dCall sp_moved (dCons (dVar 2) (dCons (dVar 1) (dCons (dOp qSub (dC (.int 0)) (dC (.int 1))) (dCons (dOp qSub (dVar 1) (dC (.int 1))) dNil)))))))
  (dRet (dTup (dCons (dVar 5) (dCons (dIf (dTest (dOp qIsN (dVar 3) (dC .non))) (dOp qSub (dC (.int 0)) (dC (.int 1))) (dCall sp_moved (dCons (dVar 3) (dCons (dVar 1) (dCons (dOp qSub (dC (.int 0)) (dC (.int 1))) (dCons (dOp qSub (dVar 1) (dC (.int 1))) dNil)))))) dNil)))))))
theorem pure_ends : Pure 6 sp_ends T_ends := by
  rintro ds S Q E frg ⟨⟨⟨a, b, t⟩, c⟩, rfl, -, q⟩
  have q : Q (.tup [.int (endsOf (a, b, t) c).1, .int (endsOf (a, b, t) c).2]) S := q
  unfold T_ends
  simp only [dS_eq]
  by_cases h0 : 0 < t
  · rw [ends_pos h0] at q
    cases a <;> cases b <;> (simp only [dO, begP, endP] at q ⊢; walk_at "wp"; rw [if_pos h0]; simp only [Bool.false_eq_true, if_true, if_false])
    · exact ⟨by decide, q⟩
    · exact ⟨(_, _, _, _), rfl, trivial, by decide, q⟩
    · exact ⟨(_, _, _, _), rfl, trivial, by decide, q⟩
    · exact ⟨(_, _, _, _), rfl, trivial, (_, _, _, _), rfl, trivial, by decide, q⟩
  · rw [ends_neg h0] at q
    cases a <;> cases b <;> (simp only [dO, begN, endN] at q ⊢; walk_at "wp"; rw [if_neg h0]; simp only [Bool.false_eq_true, if_true, if_false])
    · exact ⟨by decide, q⟩
    · exact ⟨(_, _, _, _), rfl, trivial, by decide, q⟩
    · exact ⟨(_, _, _, _), rfl, trivial, by decide, q⟩
    · exact ⟨(_, _, _, _), rfl, trivial, (_, _, _, _), rfl, trivial, by decide, q⟩
def T_applied : TS2 :=
  (dSeq (dAsg (dVar 1) (kTup 3 (kCons (kName 2) (kCons (kName 3) (kCons (kName 4) kNil)))))
  (dSeq (dAsg (dCall sp_ends (dCons (dVar 0) (dCons (dVar 4) dNil))) (kTup 2 (kCons (kName 5) (kCons (kName 6) kNil))))
  (dSeq (dIfS (dTest (dOp qGt (dOp qIx (dVar 0) (dC (.int 2))) (dC (.int 0)))) (dSet 7 (dCB qMax2 (dCons (dC (.int 0)) (dCons (dOp qFdiv (dOp qSub (dOp qAdd (dOp qSub (dVar 6) (dVar 5)) (dOp qIx (dVar 0) (dC (.int 2)))) (dC (.int 1))) (dOp qIx (dVar 0) (dC (.int 2)))) dNil)))) (dSet 7 (dCB qMax2 (dCons (dC (.int 0)) (dCons (dOp qFdiv (dOp qSub (dOp qSub (dOp qSub (dVar 5) (dVar 6)) (dOp qIx (dVar 0) (dC (.int 2)))) (dC (.int 1))) (dOp qSub (dC (.int 0)) (dOp qIx (dVar 0) (dC (.int 2))))) dNil)))))
  (dRet (dTup (dCons (dOp qAdd (dVar 2) (dOp qMul (dVar 3) (dVar 5))) (dCons (dOp qMul (dVar 3) (dOp qIx (dVar 0) (dC (.int 2)))) (dCons (dVar 7) dNil))))))))
theorem pure_applied : Pure 8 sp_applied T_applied := by
  rintro ds S Q E frg ⟨⟨⟨a, b, t⟩, f, s, c⟩, rfl, ⟨hs, hc, hc2⟩, q⟩
  have hc : 0 ≤ c := hc
  have hc2 : c ≤ 10 ^ 18 := hc2
  have ht := hs.2.2
  have ht : -3 ≤ t ∧ t ≤ 3 ∧ t ≠ 0 := ht
  have k := ends_in (s := (a, b, t)) hc
  have q : Q (.tup [.int (f + s * (endsOf (a, b, t) c).1), .int (s * t), .int (manyOf (a, b, t) c)]) S := q
  unfold T_applied
  simp only [dPg_eq]
  walk_at "wp"
  refine ⟨((a, b, t), c), rfl, trivial, ?_⟩
  simp only [dS_eq]
  walk_at "wp"
  have h18 : (10 : Int) ^ 18 < 2 ^ 64 := by decide
  have m1 : CMul s (endsOf (a, b, t) c).1 := .inr ⟨by omega, by omega⟩
  have m2 : CMul s t := .inr ⟨by omega, by omega⟩
  by_cases h0 : 0 < t
  · unfold manyOf at q
    rw [if_pos h0] at q
    rw [if_pos h0]
    simp only [max_if]
    exact ⟨cdiv_of h0 (by omega), m1, m2, by decide, q⟩
  · unfold manyOf at q
    rw [if_neg h0] at q
    rw [if_neg h0]
    have e : (0 : Int) - t = -t := by omega
    simp only [max_if, e]
    exact ⟨cdiv_of (by omega) (by omega), m1, m2, by decide, q⟩
def T_shown_by : TS2 :=
  (dSeq (dSet 2 (dTup (dCons (dC (.int 0)) (dCons (dC (.int 1)) (dCons (dVar 1) dNil)))))
  (dSeq (dFor (dIt (dVar 0)) (kName 3) (dSet 2 (dCall sp_applied (dCons (dVar 3) (dCons (dVar 2) dNil)))))
  (dRet (dVar 2))))
theorem pure_shown_by : Pure 4 sp_shown_by T_shown_by := by
  rintro ds S Q E frg ⟨⟨c, n⟩, rfl, ⟨hc, h0, h1⟩, q⟩
  have h0 : 0 ≤ n := h0
  have h1 : n ≤ 10 ^ 18 := h1
  unfold T_shown_by
  walk_at "wp"
  refine ⟨by decide, _, rfl, ?_⟩
  refine loop_fold dS (fun (p : Pg) ds S' => S' = S ∧ 0 ≤ p.2.2 ∧ p.2.2 ≤ n ∧ ∃ u, ds = [some (dCh c), some (.int n), some (dPg p), u]) (fun p s => applied s p) (b := (0, 1, n)) ⟨rfl, h0, Int.le_refl _, _, rfl⟩ ?_ ?_
  · rintro p s ds S' N hs ⟨rfl, k0, k1, u, rfl⟩ hN
    walk_at "wp"
    exact ⟨(s, p), rfl, ⟨hc s hs, k0, by show p.2.2 ≤ _; omega⟩, hN _ _ ⟨rfl, many_nn _ _, by have := many_le (hc s hs) k0; show manyOf s p.2.2 ≤ n; omega, _, rfl⟩⟩
  · rintro ds S' ⟨rfl, k0, k1, u, rfl⟩
    walk_at "wp"
    exact q
def T_cleaned : TS2 :=
  (dSeq (dAsg (dVar 0) (kTup 3 (kCons (kName 1) (kCons (kName 2) (kCons (kName 3) kNil)))))
  (dRet (dTup (dCons (dIf (dTest (dOp qGt (dVar 3) (dC (.int 0)))) (dVar 1) (dC .non)) (dCons (dIf (dTest (dOp qGt (dVar 3) (dC (.int 1)))) (dVar 2) (dC .non)) (dCons (dVar 3) dNil))))))
theorem pure_cleaned : Pure 4 sp_cleaned T_cleaned := by
  rintro ds S Q E frg ⟨⟨f, s, c⟩, rfl, -, q⟩
  have q : Q (.tup [dO (if c > 0 then some f else none), dO (if c > 1 then some s else none), .int c]) S := q
  unfold T_cleaned
  simp only [dPg_eq]
  walk_at "wp"
  by_cases h : c > 0 <;> by_cases h1 : c > 1 <;> simp only [h, h1, if_true, if_false] at q ⊢ <;> exact ⟨by decide, q⟩
def T_clean : TS2 :=
  (dRet (dCall sp_cleaned (dCons (dCall sp_shown_by (dCons (dVar 0) (dCons (dVar 1) dNil))) dNil)))
theorem pure_clean : Pure 2 sp_clean T_clean := by
  rintro ds S Q E frg ⟨⟨c, n⟩, rfl, h, q⟩
  unfold T_clean
  walk_at "wp"
  exact ⟨(c, n), rfl, h, _, rfl, trivial, q⟩
def T_agree_at : TS2 :=
  (dRet (dOp qEqD (dCall sp_clean (dCons (dVar 0) (dCons (dVar 2) dNil))) (dCall sp_clean (dCons (dVar 1) (dCons (dVar 2) dNil)))))
theorem pure_agree_at : Pure 3 sp_agree_at T_agree_at := by
  rintro ds S Q E frg ⟨⟨c, d, n⟩, rfl, ⟨h1, h2, h3⟩, q⟩
  unfold T_agree_at
  walk_at "wp"
  exact ⟨(c, n), rfl, ⟨h1, h3⟩, (d, n), rfl, ⟨h2, h3⟩, _, DEq.mk (dCl_ok _) (dCl_ok _) dCl_inj.symm, q⟩
def T_first_difference : TS2 :=
  (dSeq (dFor (dRng1 (dCall sp_bound_for (dCons (dVar 0) (dCons (dVar 1) dNil)))) (kName 2) (dIfS (dNot (dTest (dCall sp_agree_at (dCons (dVar 0) (dCons (dVar 1) (dCons (dVar 2) dNil)))))) (dRet (dVar 2)) dNext))
  (dRet (dC .non)))
theorem pure_first_difference : Pure 3 sp_first_difference T_first_difference := by
  rintro ds S Q E frg ⟨⟨c, d⟩, rfl, ⟨hc, hd⟩, q⟩
  have hc : okC c := hc
  have hd : okC d := hd
  have q : Q (dO (search (unlike c d) 0 (bnd c d).toNat)) S := q
  unfold T_first_difference
  walk_at "wp"
  have b := bnd_le hc hd
  refine ⟨(c, d), rfl, ⟨hc, hd⟩, ?_⟩
  walk_at "wp"
  refine ⟨by omega, by omega, ?_⟩
  refine loop_rng (fun i ds S' => S' = S ∧ (∃ u, ds = [some (dCh c), some (dCh d), u]) ∧ search (unlike c d) 0 (bnd c d).toNat = search (unlike c d) (i : Int) ((bnd c d).toNat - i)) ⟨rfl, ⟨_, rfl⟩, rfl⟩ ?_ ?_
  · rintro i ds S' N hi ⟨rfl, ⟨u, rfl⟩, e⟩ hN
    walk_at "wp"
    refine ⟨(c, d, 0 + (i : Int)), rfl, ⟨hc.2, hd.2, by show (0 : Int) ≤ 0 + _; omega, by show 0 + (i : Int) ≤ _; omega⟩, ?_⟩
    have es : (bnd c d).toNat - i = ((bnd c d).toNat - (i + 1)) + 1 := by omega
    rw [es] at e
    rw [search_succ] at e
    rw [Int.zero_add]
    walk_at "wp"
    by_cases h : clean c (i : Int) = clean d (i : Int)
    · have hu : unlike c d (i : Int) = false := by unfold unlike; simp [h]
      rw [hu, if_neg (by decide)] at e
      refine iteN (by simp [h]) (hN _ _ ⟨rfl, ⟨_, rfl⟩, by rw [e]; rfl⟩)
    · have hu : unlike c d (i : Int) = true := by unfold unlike; simp [h]
      rw [hu, if_pos rfl] at e
      rw [e] at q
      exact iteP (by simp [h]) q
  · rintro ds S' ⟨rfl, ⟨u, rfl⟩, e⟩
    walk_at "wp"
    rw [e, Nat.sub_self] at q
    exact q
def T_are_equal : TS2 :=
  (dRet (dOp qIsN (dCall sp_first_difference (dCons (dVar 0) (dCons (dVar 1) dNil))) (dC .non)))
theorem pure_are_equal : Pure 2 sp_are_equal T_are_equal := by
  rintro ds S Q E frg ⟨⟨c, d⟩, rfl, h, q⟩
  unfold T_are_equal
  walk_at "wp"
  refine ⟨(c, d), rfl, h, ?_⟩
  dsimp only
  rw [isN_dO]
  exact q
def T_equal : TS2 :=
  (dSeq (dDrop (dCall sp_require_both (dCons (dVar 0) (dCons (dVar 1) dNil))))
  (dRet (dOp qIsN (dCall sp_first_difference (dCons (dVar 0) (dCons (dVar 1) dNil))) (dC .non))))
theorem pure_equal : Pure 2 sp_equal T_equal := by
  rintro ds S Q E frg ⟨⟨c, d⟩, rfl, h, q⟩
  unfold T_equal
  walk_at "wp"
  refine ⟨(c, d), rfl, h, (c, d), rfl, h, ?_⟩
  dsimp only
  rw [isN_dO]
  exact q
def T_difference : TS2 :=
  (dSeq (dDrop (dCall sp_require_both (dCons (dVar 0) (dCons (dVar 1) dNil))))
  (dRet (dCall sp_first_difference (dCons (dVar 0) (dCons (dVar 1) dNil)))))
theorem pure_difference : Pure 2 sp_difference T_difference := by
  rintro ds S Q E frg ⟨⟨c, d⟩, rfl, h, q⟩
  unfold T_difference
  walk_at "wp"
  exact ⟨(c, d), rfl, h, (c, d), rfl, h, q⟩
def T__law_shown : TS2 :=
  (dSeq (dPar3 2 3 4 (dCons (dC (.int 0)) (dCons (dC (.int 1)) (dCons (dVar 1) dNil))))
  (dSeq (dFor (dIt (dVar 0)) (kName 5) (dSeq (dAsg (dCall sp__law_part (dCons (dVar 5) (dCons (dVar 4) dNil))) (kTup 2 (kCons (kName 6) (kCons (kName 7) kNil))))
  (dPar3 2 3 4 (dCons (dOp qAdd (dVar 2) (dOp qMul (dVar 3) (dVar 6))) (dCons (dOp qMul (dVar 3) (dOp qIx (dVar 5) (dC (.int 2)))) (dCons (dVar 7) dNil))))))
  (dRet (dTup (dCons (dIf (dTest (dOp qGt (dVar 4) (dC (.int 0)))) (dVar 2) (dC .non)) (dCons (dIf (dTest (dOp qGt (dVar 4) (dC (.int 1)))) (dVar 3) (dC .non)) (dCons (dVar 4) dNil)))))))
theorem pure__law_shown : Pure 8 sp__law_shown T__law_shown := by
  rintro ds S Q E frg ⟨⟨c, n⟩, rfl, ⟨hc, h0, h1⟩, q⟩
  have h0 : 0 ≤ n := h0
  have h1 : n ≤ 10 ^ 18 := h1
  have h18 : (10 : Int) ^ 18 < 2 ^ 64 := by decide
  unfold T__law_shown
  walk_at "wp"
  refine ⟨_, rfl, ?_⟩
  refine loop_fold dS (fun (p : Pg) ds S' => S' = S ∧ 0 ≤ p.2.2 ∧ p.2.2 ≤ n ∧ ∃ u v w, ds = [some (dCh c), some (.int n), some (.int p.1), some (.int p.2.1), some (.int p.2.2), u, v, w]) (fun p s => applied s p) (b := (0, 1, n)) ⟨rfl, h0, Int.le_refl _, _, _, _, rfl⟩ ?_ ?_
  · rintro p s ds S' N hs ⟨rfl, k0, k1, u, v, w, rfl⟩ hN
    walk_at "wp"
    refine ⟨(s, p.2.2), rfl, ⟨hc s hs, k0⟩, ?_⟩
    have ht := (hc s hs).2.2
    have k := ends_in (s := s) k0
    simp only [dS_eq]
    walk_at "wp"
    refine ⟨.inr ⟨by omega, by omega⟩, .inr ⟨by omega, by omega⟩, hN _ _ ⟨rfl, many_nn _ _, by have := many_le (hc s hs) k0; show manyOf s p.2.2 ≤ n; omega, _, _, _, rfl⟩⟩
  · rintro ds S' ⟨rfl, k0, k1, u, v, w, rfl⟩
    walk_at "wp"
    have q : Q (.tup [dO (if (shown c n).2.2 > 0 then some (shown c n).1 else none), dO (if (shown c n).2.2 > 1 then some (shown c n).2.1 else none), .int (shown c n).2.2]) S' := q
    have e : List.foldl (fun p s => applied s p) (0, 1, n) c = shown c n := rfl
    rw [e]
    by_cases h : (shown c n).2.2 > 0 <;> by_cases h1 : (shown c n).2.2 > 1 <;> simp only [h, h1, if_true, if_false] at q ⊢ <;> exact ⟨by decide, q⟩
def T__law_unlike : TS2 :=
  (dSeq (dAsg (dCall sp__law_limit (dCons (dVar 0) (dCons (dVar 1) dNil))) (kTup 2 (kCons (kName 2) (kCons (kName 3) kNil))))
  (dSeq (dFor (dRng1 (dOp qAdd (dVar 2) (dOp qMul (dC (.int 3)) (dVar 3)))) (kName 4) (dIfS (dTest (dOp qNeD (dCall sp__law_shown (dCons (dVar 0) (dCons (dVar 4) dNil))) (dCall sp__law_shown (dCons (dVar 1) (dCons (dVar 4) dNil))))) (dRet (dVar 4)) dNext))
  (dRet (dC .non))))
theorem pure__law_unlike : Pure 5 sp__law_unlike T__law_unlike := by
  rintro ds S Q E frg ⟨⟨c, d⟩, rfl, ⟨hc, hd⟩, q⟩
  have hc : okC c := hc
  have hd : okC d := hd
  have q : Q (dO (search (unlike c d) 0 (bnd c d).toNat)) S := q
  unfold T__law_unlike
  walk_at "wp"
  have b := bnd_le hc hd
  refine ⟨(c, d), rfl, ⟨hc, hd⟩, ?_⟩
  walk_at "wp"
  have eb : lastT c d + 3 * bothP c d = bnd c d := rfl
  rw [eb]
  refine ⟨.inl (by omega), by omega, by omega, ?_⟩
  refine loop_rng (fun i ds S' => S' = S ∧ (∃ u v w, ds = [some (dCh c), some (dCh d), u, v, w]) ∧ search (unlike c d) 0 (bnd c d).toNat = search (unlike c d) (i : Int) ((bnd c d).toNat - i)) ⟨rfl, ⟨_, _, _, rfl⟩, rfl⟩ ?_ ?_
  · rintro i ds S' N hi ⟨rfl, ⟨u, v, w, rfl⟩, e⟩ hN
    walk_at "wp"
    refine ⟨(c, 0 + (i : Int)), rfl, ⟨hc.2, by show (0 : Int) ≤ 0 + _; omega, by show 0 + (i : Int) ≤ _; omega⟩, (d, 0 + (i : Int)), rfl, ⟨hd.2, by show (0 : Int) ≤ 0 + _; omega, by show 0 + (i : Int) ≤ _; omega⟩, _, DEq.mk (dCl_ok _) (dCl_ok _) dCl_inj.symm, ?_⟩
    have es : (bnd c d).toNat - i = ((bnd c d).toNat - (i + 1)) + 1 := by omega
    rw [es] at e
    rw [search_succ] at e
    dsimp only
    rw [Int.zero_add]
    refine ⟨_, rfl, ?_⟩
    by_cases h : clean c (i : Int) = clean d (i : Int)
    · have hu : unlike c d (i : Int) = false := by unfold unlike; simp [h]
      rw [hu, if_neg (by decide)] at e
      refine iteN (by simp [h]) (hN _ _ ⟨rfl, ⟨_, _, _, rfl⟩, by rw [e]; rfl⟩)
    · have hu : unlike c d (i : Int) = true := by unfold unlike; simp [h]
      rw [hu, if_pos rfl] at e
      rw [e] at q
      exact iteP (by simp [h]) q
  · rintro ds S' ⟨rfl, ⟨u, v, w, rfl⟩, e⟩
    walk_at "wp"
    rw [e, Nat.sub_self] at q
    exact q
end Sc

namespace Sc
open PySem PySem.Spec PyProof.Rows L2 Sm
section
variable {X : Cx}
/-- two lists that may change, in a row -/
def qCatL : QO := fun d e S Q => ∃ a b ds es, d = .ref a ∧ e = .ref b ∧ S a = some (.lst ds) ∧ S b = some (.lst es) ∧ ds.length + es.length ≤ 100000 ∧ newL (ds ++ es) S Q
theorem o_catL : O2 X (binaryOp .Add) qCatL := ⟨fun d e S Q Q' hq ⟨a, b, ds, es, h1, h2, h3, h4, h5, q⟩ => ⟨a, b, ds, es, h1, h2, h3, h4, h5, newL.mono hq q⟩, _, op_cat, fun d e v u S H Q w r1 r2 ⟨a, b, ds, es, h1, h2, h3, h4, h5, q⟩ => by
  subst h1 h2
  obtain ⟨xs, k1, k2⟩ := w a _ h3
  obtain ⟨ys, k3, k4⟩ := w b _ h4
  exact ⟨a, b, xs, ys, r1, r2, k1, k3, by rw [k2.length, k4.length]; exact size_le h5, fun p hp => newL.run ⟨Same.refl _, w⟩ (k2.app k4) q hp⟩⟩
/-- a list that may change, so many times -/
def qRepL : QO := fun d e S Q => ∃ a ds k, d = .ref a ∧ e = .int k ∧ S a = some (.lst ds) ∧ -1000000 ≤ k ∧ k ≤ 1000000 ∧ ds.length * k.toNat ≤ 100000 ∧ newL (List.replicate k.toNat ds).flatten S Q
theorem o_repL : O2 X (binaryOp .Mult) qRepL := ⟨fun d e S Q Q' hq ⟨a, ds, k, h1, h2, h3, h4, h5, h6, q⟩ => ⟨a, ds, k, h1, h2, h3, h4, h5, h6, newL.mono hq q⟩, _, op_rep, fun d e v u S H Q w r1 r2 ⟨a, ds, k, h1, h2, h3, h4, h5, h6, q⟩ => by
  subst h1 h2
  obtain ⟨xs, k1, k2⟩ := w a _ h3
  exact ⟨a, k, xs, r1, r2, k1, by omega, by omega, by rw [k2.length]; exact size_le h6, fun p hp => newL.run ⟨Same.refl _, w⟩ (k2.rep k.toNat) q hp⟩⟩
end
/-! ### a store that grew from S, the bag at b drawn from -/
structure Ext (S : Cells) (b : Addr) (S' : Cells) : Prop where
  bag : Bag S' b
  use : ∀ Q d, Fg Q → (∀ c s, Q d (S.put b (.lst [.int c, .int s]))) → Q d S'
theorem Ext.base {S : Cells} {b : Addr} (h : Bag S b) : Ext S b S := ⟨h, fun Q d _ q => by
  obtain ⟨c, s, e⟩ := h
  have := q c s
  rw [put_self e] at this
  exact this⟩
theorem Ext.draw {S S' : Cells} {b : Addr} {c s : Int} (h : Ext S b S') : Ext S b (S'.put b (.lst [.int c, .int s])) := ⟨Bag.put, fun Q d frg q => by
  refine h.use (fun d S'' => Q d (S''.put b (.lst [.int c, .int s]))) d (fun d S2 p k hp q2 => ?_) (fun c2 s2 => by rw [Cells.put_put]; exact q c s)
  show Q d ((S2.put p k).put b (.lst [.int c, .int s]))
  by_cases e : p = b
  · rw [e, Cells.put_put]
    exact q2
  · have z := frg d (S2.put b (.lst [.int c, .int s])) p k (by rw [Cells.put_ne e]; exact hp) q2
    rw [put_comm e]
    exact z⟩
theorem Ext.fresh {S S' : Cells} {b p : Addr} {k : Cell} (h : Ext S b S') (hp : S' p = none) : Ext S b (S'.put p k) := by
  obtain ⟨c, s, e⟩ := h.bag
  exact ⟨⟨c, s, by rw [Cells.put_ne (Cells.ne_new e hp)]; exact e⟩, fun Q d frg q => frg d S' p k hp (h.use Q d frg q)⟩
end Sc

namespace Sm
/-- from T on, in steps of w, all is even -/
def Lin (T w : Int) (F : Int → Pg) : Prop := ∀ n, T ≤ n → ∃ f s q A B : Int, 0 ≤ q ∧ 0 ≤ B ∧ ∀ k : Int, 0 ≤ k → F (n + k * w) = (f + k * A, s, q + k * B)
/-- how an end moves with the count: from L on, evenly -/
theorem begP_lin (o : Option Int) : ∃ x : Int, (x = 0 ∨ x = 1) ∧ ∀ c j : Int, absB o ≤ c → 0 ≤ j → begP o (c + j) = begP o c + j * x := by
  cases o with
  | none => exact ⟨0, .inl rfl, fun c j _ _ => by simp [begP]⟩
  | some b =>
    have e : absB (some b) = (b.natAbs : Int) := rfl
    by_cases h : b < 0
    · refine ⟨1, .inr rfl, fun c j h1 h2 => ?_⟩
      rw [e] at h1
      simp only [begP, moved, if_pos h]
      omega
    · refine ⟨0, .inl rfl, fun c j h1 h2 => ?_⟩
      rw [e] at h1
      simp only [begP, moved, if_neg h]
      omega
theorem endP_lin (o : Option Int) : ∃ x : Int, (x = 0 ∨ x = 1) ∧ ∀ c j : Int, absB o ≤ c → 0 ≤ j → endP o (c + j) = endP o c + j * x := by
  cases o with
  | none => exact ⟨1, .inr rfl, fun c j _ _ => by simp [endP]⟩
  | some b =>
    have e : absB (some b) = (b.natAbs : Int) := rfl
    by_cases h : b < 0
    · refine ⟨1, .inr rfl, fun c j h1 h2 => ?_⟩
      rw [e] at h1
      simp only [endP, moved, if_pos h]
      omega
    · refine ⟨0, .inl rfl, fun c j h1 h2 => ?_⟩
      rw [e] at h1
      simp only [endP, moved, if_neg h]
      omega
theorem begN_lin (o : Option Int) : ∃ x : Int, (x = 0 ∨ x = 1) ∧ (x = 1 → 0 ≤ begN o (1 + absB o)) ∧ ∀ c j : Int, 1 + absB o ≤ c → 0 ≤ j → begN o (c + j) = begN o c + j * x := by
  cases o with
  | none => exact ⟨1, .inr rfl, fun _ => by decide, fun c j _ _ => by simp only [begN]; omega⟩
  | some b =>
    have e : absB (some b) = (b.natAbs : Int) := rfl
    by_cases h : b < 0
    · refine ⟨1, .inr rfl, fun _ => by rw [e]; simp only [begN, moved, if_pos h]; omega, fun c j h1 h2 => ?_⟩
      rw [e] at h1
      simp only [begN, moved, if_pos h]
      omega
    · refine ⟨0, .inl rfl, fun h => absurd h (by decide), fun c j h1 h2 => ?_⟩
      rw [e] at h1
      simp only [begN, moved, if_neg h]
      omega
theorem endN_lin (o : Option Int) : ∃ x : Int, (x = 0 ∨ x = 1) ∧ (x = 1 → 1 ≤ endN o (1 + absB o)) ∧ ∀ c j : Int, 1 + absB o ≤ c → 0 ≤ j → endN o (c + j) = endN o c + j * x := by
  cases o with
  | none => exact ⟨0, .inl rfl, fun h => absurd h (by decide), fun c j _ _ => by simp only [endN]; omega⟩
  | some b =>
    have e : absB (some b) = (b.natAbs : Int) := rfl
    by_cases h : b < 0
    · refine ⟨1, .inr rfl, fun _ => by rw [e]; simp only [endN, moved, if_pos h]; omega, fun c j h1 h2 => ?_⟩
      rw [e] at h1
      simp only [endN, moved, if_pos h]
      omega
    · refine ⟨0, .inl rfl, fun h => absurd h (by decide), fun c j h1 h2 => ?_⟩
      rw [e] at h1
      simp only [endN, moved, if_neg h]
      omega
/-- a count of so many: D grows by t times j, not at all, or is too small -/
theorem ceil_add {D t j : Int} (ht : 0 < t) (h : 0 ≤ D) (hj : 0 ≤ j) : max 0 ((D + t * j + t - 1) / t) = max 0 ((D + t - 1) / t) + j := by
  have e : D + t * j + t - 1 = (D + t - 1) + t * j := by omega
  rw [e, Int.add_mul_ediv_left _ _ (by omega)]
  have : 0 ≤ (D + t - 1) / t := Int.ediv_nonneg (by omega) (by omega)
  omega
theorem ceil_zero {D t : Int} (ht : 0 < t) (h : D ≤ 0) : max 0 ((D + t - 1) / t) = 0 := by
  have : (D + t - 1) / t < 1 := Int.ediv_lt_of_lt_mul ht (by omega)
  omega
/-- one slice, from a count of 1 + |start| + |stop| on: the begin and the count move evenly in steps of |t| -/
theorem slice_lin (s : Sl) (hs : okS s) : ∃ x y : Int, 0 ≤ y ∧ ∀ c j : Int, 1 + absB s.1 + absB s.2.1 ≤ c → 0 ≤ j →
    (endsOf s (c + (s.2.2.natAbs : Int) * j)).1 = (endsOf s c).1 + ((s.2.2.natAbs : Int) * j) * x ∧ manyOf s (c + (s.2.2.natAbs : Int) * j) = manyOf s c + j * y := by
  obtain ⟨a, b, t⟩ := s
  have ht : -3 ≤ t ∧ t ≤ 3 ∧ t ≠ 0 := hs.2.2
  have a1 := absB_nn a
  have b1 := absB_nn b
  by_cases h0 : 0 < t
  · have et : (t.natAbs : Int) = t := by omega
    obtain ⟨x, hx, kx⟩ := begP_lin a
    obtain ⟨y, hy, ky⟩ := endP_lin b
    show ∃ x y : Int, 0 ≤ y ∧ ∀ c j : Int, 1 + absB a + absB b ≤ c → 0 ≤ j → (endsOf (a, b, t) (c + (t.natAbs : Int) * j)).1 = (endsOf (a, b, t) c).1 + ((t.natAbs : Int) * j) * x ∧ manyOf (a, b, t) (c + (t.natAbs : Int) * j) = manyOf (a, b, t) c + j * y
    rw [et]
    have tj : ∀ j : Int, 0 ≤ j → 0 ≤ t * j := fun j hj => Int.mul_nonneg (by omega) hj
    refine ⟨x, if x = 0 ∧ y = 1 then 1 else 0, by split <;> omega, fun c j hc hj => ?_⟩
    have k1 := kx c (t * j) (by omega) (tj j hj)
    have k2 := ky c (t * j) (by omega) (tj j hj)
    rw [ends_pos h0, ends_pos h0, many_pos h0, many_pos h0]
    refine ⟨k1, ?_⟩
    have j0 := tj j hj
    rcases hx with rfl | rfl <;> rcases hy with rfl | rfl
    · rw [k1, k2]; simp
    · rw [k1, k2]
      simp only [Int.mul_zero, Int.mul_one, Int.add_zero, and_self, if_true]
      have d : endP b c + t * j - begP a c + t - 1 = (endP b c - begP a c) + t * j + t - 1 := by omega
      rw [d]
      refine ceil_add h0 ?_ hj
      have z1 : begP a c ≤ absB a := by
        have := kx (absB a) (c - absB a) (Int.le_refl _) (by omega)
        rw [show absB a + (c - absB a) = c by omega] at this
        have w := begP_in (o := a) (c := absB a) a1
        omega
      have z2 : c - absB b ≤ endP b c := by
        have := ky (absB b) (c - absB b) (Int.le_refl _) (by omega)
        rw [show absB b + (c - absB b) = c by omega] at this
        have w := endP_in (o := b) (c := absB b) b1
        omega
      omega
    · have n1 : ¬ ((1 : Int) = 0 ∧ (0 : Int) = 1) := by omega
      rw [if_neg n1, Int.mul_zero, Int.add_zero]
      have z1 : c - absB a ≤ begP a c := by
        have := kx (absB a) (c - absB a) (Int.le_refl _) (by omega)
        rw [show absB a + (c - absB a) = c by omega] at this
        have w := begP_in (o := a) (c := absB a) a1
        omega
      have z2 : endP b c ≤ absB b := by
        have := ky (absB b) (c - absB b) (Int.le_refl _) (by omega)
        rw [show absB b + (c - absB b) = c by omega] at this
        have w := endP_in (o := b) (c := absB b) b1
        omega
      rw [ceil_zero h0 (by omega), ceil_zero h0 (by omega)]
    · rw [k1, k2]
      have n1 : ¬ ((1 : Int) = 0 ∧ (1 : Int) = 1) := by omega
      rw [if_neg n1, Int.mul_zero, Int.add_zero]
      have d : endP b c + t * j * 1 - (begP a c + t * j * 1) + t - 1 = endP b c - begP a c + t - 1 := by omega
      rw [d]
  · have et : (t.natAbs : Int) = -t := by omega
    obtain ⟨x, hx, hx1, kx⟩ := begN_lin a
    obtain ⟨y, hy, hy1, ky⟩ := endN_lin b
    show ∃ x y : Int, 0 ≤ y ∧ ∀ c j : Int, 1 + absB a + absB b ≤ c → 0 ≤ j → (endsOf (a, b, t) (c + (t.natAbs : Int) * j)).1 = (endsOf (a, b, t) c).1 + ((t.natAbs : Int) * j) * x ∧ manyOf (a, b, t) (c + (t.natAbs : Int) * j) = manyOf (a, b, t) c + j * y
    rw [et]
    obtain ⟨u, rfl⟩ : ∃ u, t = -u := ⟨-t, by omega⟩
    have eu : - -u = u := by omega
    rw [eu]
    have hu : 0 < u := by omega
    have tj : ∀ j : Int, 0 ≤ j → 0 ≤ u * j := fun j hj => Int.mul_nonneg (by omega) hj
    refine ⟨x, if x = 1 ∧ y = 0 then 1 else 0, by split <;> omega, fun c j hc hj => ?_⟩
    have k1 := kx c (u * j) (by omega) (tj j hj)
    have k2 := ky c (u * j) (by omega) (tj j hj)
    rw [ends_neg h0, ends_neg h0, many_neg h0, many_neg h0, eu]
    refine ⟨k1, ?_⟩
    have j0 := tj j hj
    have r : ∀ p q : Int, p - q - -u - 1 = p - q + u - 1 := fun p q => by omega
    rw [r, r]
    rcases hx with rfl | rfl <;> rcases hy with rfl | rfl
    · rw [k1, k2]; simp
    · have n1 : ¬ ((0 : Int) = 1 ∧ (1 : Int) = 0) := by omega
      rw [if_neg n1, Int.mul_zero, Int.add_zero]
      have z1 : begN a c ≤ absB a := by
        have := kx (1 + absB a) (c - (1 + absB a)) (Int.le_refl _) (by omega)
        rw [show 1 + absB a + (c - (1 + absB a)) = c by omega] at this
        have w := begN_in (o := a) (c := 1 + absB a) (by omega)
        omega
      have z2 : c - absB b ≤ endN b c := by
        have := ky (1 + absB b) (c - (1 + absB b)) (Int.le_refl _) (by omega)
        rw [show 1 + absB b + (c - (1 + absB b)) = c by omega] at this
        have w := hy1 rfl
        omega
      simp only [Int.mul_zero, Int.mul_one, Int.add_zero] at k1 k2
      rw [k1, k2, ceil_zero hu (by omega), ceil_zero hu (by omega)]
    · rw [k1, k2]
      simp only [Int.mul_zero, Int.mul_one, Int.add_zero, and_self, if_true]
      have d : begN a c + u * j - endN b c + u - 1 = (begN a c - endN b c) + u * j + u - 1 := by omega
      rw [d]
      refine ceil_add hu ?_ hj
      have z1 : c - 1 - absB a ≤ begN a c := by
        have := kx (1 + absB a) (c - (1 + absB a)) (Int.le_refl _) (by omega)
        rw [show 1 + absB a + (c - (1 + absB a)) = c by omega] at this
        have w := hx1 rfl
        omega
      have z2 : endN b c ≤ absB b := by
        have := ky (1 + absB b) (c - (1 + absB b)) (Int.le_refl _) (by omega)
        rw [show 1 + absB b + (c - (1 + absB b)) = c by omega] at this
        have w := endN_in (o := b) (c := 1 + absB b) (by omega)
        omega
      omega
    · rw [k1, k2]
      have n1 : ¬ ((1 : Int) = 1 ∧ (1 : Int) = 0) := by omega
      rw [if_neg n1, Int.mul_zero, Int.add_zero]
      have d : begN a c + u * j * 1 - (endN b c + u * j * 1) + u - 1 = begN a c - endN b c + u - 1 := by omega
      rw [d]
theorem lin_step {T w : Int} {F : Int → Pg} (h : Lin T w F) (hw : 0 < w) {s : Sl} (hs : okS s) : Lin (T + w * (1 + absB s.1 + absB s.2.1)) (w * (s.2.2.natAbs : Int)) (fun n => applied s (F n)) := by
  intro n hn
  have hs3 := hs.2.2
  obtain ⟨τ, eτ⟩ : ∃ τ : Int, τ = (s.2.2.natAbs : Int) := ⟨_, rfl⟩
  have hτ : 0 < τ := by omega
  obtain ⟨L, eL⟩ : ∃ L : Int, L = 1 + absB s.1 + absB s.2.1 := ⟨_, rfl⟩
  have a1 := absB_nn s.1
  have b1 := absB_nn s.2.1
  have hL : 0 ≤ L := by omega
  rw [← eL] at hn
  rw [← eτ]
  obtain ⟨f, σ, q, A, B, hq, hB, k⟩ := h (n - L * w) (by rw [Int.mul_comm L w]; omega)
  have go : ∀ k : Int, 0 ≤ k → F (n + k * (w * τ)) = (f + (L + k * τ) * A, σ, q + (L + k * τ) * B) := fun i hi => by
    rw [← k (L + i * τ) (by have := Int.mul_nonneg hi (Int.le_of_lt hτ); omega)]
    congr 1
    rw [Int.add_mul, Int.mul_assoc i τ w, Int.mul_comm τ w]
    omega
  by_cases hB0 : B = 0
  · subst hB0
    refine ⟨f + L * A + σ * (endsOf s q).1, σ * s.2.2, manyOf s q, τ * A, 0, many_nn _ _, Int.le_refl _, fun i hi => ?_⟩
    show applied s (F (n + i * (w * τ))) = _
    rw [go i hi]
    unfold applied
    simp only [Int.mul_zero, Int.add_zero]
    refine Prod.ext ?_ rfl
    show f + (L + i * τ) * A + σ * (endsOf s q).1 = f + L * A + σ * (endsOf s q).1 + i * (τ * A)
    rw [Int.add_mul, Int.mul_assoc i τ A]
    omega
  · obtain ⟨x, y, hy, z⟩ := slice_lin s hs
    rw [← eτ, ← eL] at z
    have hLB : L ≤ q + L * B := by
      have : L * 1 ≤ L * B := Int.mul_le_mul_of_nonneg_left (by omega) hL
      omega
    refine ⟨f + L * A + σ * (endsOf s (q + L * B)).1, σ * s.2.2, manyOf s (q + L * B), τ * A + σ * (τ * B * x), B * y, many_nn _ _, Int.mul_nonneg hB hy, fun i hi => ?_⟩
    show applied s (F (n + i * (w * τ))) = _
    rw [go i hi]
    have ec : q + (L + i * τ) * B = q + L * B + τ * (i * B) := by
      rw [Int.add_mul, Int.mul_assoc i τ B, Int.mul_left_comm i τ B]
      omega
    rw [ec]
    have z2 := z (q + L * B) (i * B) hLB (Int.mul_nonneg hi hB)
    unfold applied
    refine Prod.ext ?_ (Prod.ext rfl ?_)
    · show f + (L + i * τ) * A + σ * (endsOf s (q + L * B + τ * (i * B))).1 = f + L * A + σ * (endsOf s (q + L * B)).1 + i * (τ * A + σ * (τ * B * x))
      rw [z2.1, Int.mul_add, Int.add_mul, Int.mul_add i, Int.mul_assoc i τ A]
      have e1 : σ * (τ * (i * B) * x) = i * (σ * (τ * B * x)) := by
        simp only [Int.mul_comm, Int.mul_left_comm, Int.mul_assoc]
      rw [e1]
      omega
    · show manyOf s (q + L * B + τ * (i * B)) = manyOf s (q + L * B) + i * (B * y)
      rw [z2.2, Int.mul_assoc]
theorem lin_wts : ∀ (c : List Sl) (p : Int × Int) (F : Int → Pg), (∀ s, s ∈ c → okS s) → 0 < p.2 → Lin p.1 p.2 F → Lin (wts c p).1 (wts c p).2 (fun n => shownF c (F n))
  | [], p, F, _, _, h => h
  | s :: c, p, F, hc, hp, h => by
    have hs := hc s List.mem_cons_self
    have h3 := hs.2.2
    exact lin_wts c (p.1 + p.2 * (1 + absB s.1 + absB s.2.1), p.2 * (s.2.2.natAbs : Int)) _ (fun s hs => hc s (List.mem_cons_of_mem _ hs)) (Int.mul_pos hp (by omega)) (lin_step h hp hs)
theorem lin_shown {c : List Sl} (hc : okC c) : Lin (thr c) (per c) (shown c) := by
  refine lin_wts c (0, 1) (fun n => (0, 1, n)) hc.2 (by decide) fun n hn => ⟨0, 1, n, 0, 1, hn, by decide, fun k _ => ?_⟩
  show ((0 : Int), (1 : Int), n + k * 1) = (0 + k * 0, 1, n + k * 1)
  rw [Int.mul_zero]
  rfl
theorem Lin.mult {T w m : Int} {F : Int → Pg} (h : Lin T w F) (hm : 0 ≤ m) : Lin T (m * w) F := fun n hn => by
  obtain ⟨f, s, q, A, B, hq, hB, k⟩ := h n hn
  refine ⟨f, s, q, m * A, m * B, hq, Int.mul_nonneg hm hB, fun i hi => ?_⟩
  rw [← Int.mul_assoc, k (i * m) (Int.mul_nonneg hi hm), Int.mul_assoc, Int.mul_assoc]
/-- three in a row say all -/
theorem lin_agree {T P : Int} {F G : Int → Pg} (hF : Lin T P F) (hG : Lin T P G) {n : Int} (hn : T ≤ n) (h0 : cleaned (F n) = cleaned (G n)) (h1 : cleaned (F (n + P)) = cleaned (G (n + P))) (h2 : cleaned (F (n + 2 * P)) = cleaned (G (n + 2 * P))) :
    ∀ k : Int, 0 ≤ k → cleaned (F (n + k * P)) = cleaned (G (n + k * P)) := by
  obtain ⟨f, s, q, A, B, hq, hB, kF⟩ := hF n hn
  obtain ⟨f', s', q', A', B', hq', hB', kG⟩ := hG n hn
  have a0 := kF 0 (Int.le_refl _)
  have a1 := kF 1 (by decide)
  have a2 := kF 2 (by decide)
  have b0 := kG 0 (Int.le_refl _)
  have b1 := kG 1 (by decide)
  have b2 := kG 2 (by decide)
  simp only [Int.zero_mul, Int.add_zero, Int.one_mul] at a0 a1 a2 b0 b1 b2
  rw [a0, b0] at h0
  rw [a1, b1] at h1
  rw [a2, b2] at h2
  unfold cleaned at h0 h1 h2
  simp only [Prod.mk.injEq] at h0 h1 h2
  obtain ⟨x0, y0, z0⟩ := h0
  obtain ⟨x1, y1, z1⟩ := h1
  obtain ⟨x2, y2, z2⟩ := h2
  have eB : B = B' := by omega
  subst z0 eB
  intro k hk
  rw [kF k hk, kG k hk]
  unfold cleaned
  simp only [Prod.mk.injEq, and_true]
  by_cases hB0 : B = 0
  · subst hB0
    simp only [Int.mul_zero, Int.add_zero] at *
    by_cases g0 : q > 0
    · simp only [if_pos g0, Option.some.injEq] at x0 x1 ⊢
      have eA : A = A' := by omega
      subst eA
      exact ⟨by omega, y0⟩
    · have g1 : ¬ q > 1 := by omega
      simp only [if_neg g0, if_neg g1, and_self]
  · have g1 : q + B > 0 := by omega
    have g2 : q + 2 * B > 0 := by omega
    have g3 : q + 2 * B > 1 := by omega
    simp only [if_pos g1, Option.some.injEq] at x1
    simp only [if_pos g2, Option.some.injEq] at x2
    simp only [if_pos g3, Option.some.injEq] at y2
    have eA : A = A' := by omega
    have ef : f = f' := by omega
    subst eA ef y2
    exact ⟨rfl, rfl⟩
theorem lin_both {c d : List Sl} (hc : okC c) (hd : okC d) : Lin (lastT c d) (bothP c d) (shown c) ∧ Lin (lastT c d) (bothP c d) (shown d) := by
  have p1 := per_pos hc
  have p2 := per_pos hd
  unfold bothP lcmI
  obtain ⟨x, hx⟩ := Nat.dvd_lcm_left (per c).natAbs (per d).natAbs
  obtain ⟨y, hy⟩ := Nat.dvd_lcm_right (per c).natAbs (per d).natAbs
  have m1 := (lin_shown hc).mult (m := (x : Int)) (by omega)
  have m2 := (lin_shown hd).mult (m := (y : Int)) (by omega)
  have e1 : (((per c).natAbs.lcm (per d).natAbs : Nat) : Int) = (x : Int) * per c := by
    rw [hx, Int.natCast_mul, Int.mul_comm, Int.natAbs_of_nonneg (by omega)]
  have e2 : (((per c).natAbs.lcm (per d).natAbs : Nat) : Int) = (y : Int) * per d := by
    rw [hy, Int.natCast_mul, Int.mul_comm, Int.natAbs_of_nonneg (by omega)]
  constructor
  · rw [e1]
    exact fun n hn => m1 n (by unfold lastT at hn; omega)
  · rw [e2]
    exact fun n hn => m2 n (by unfold lastT at hn; omega)
theorem bothP_pos {c d : List Sl} (hc : okC c) (hd : okC d) : 0 < bothP c d := by
  have p1 := per_pos hc
  have p2 := per_pos hd
  unfold bothP lcmI
  have := Nat.lcm_pos (m := (per c).natAbs) (n := (per d).natAbs) (by omega) (by omega)
  omega
/-- no difference below the bound: none at all -/
theorem none_all {c d : List Sl} (hc : okC c) (hd : okC d) (h : firstD c d = none) {n : Int} (hn : 0 ≤ n) : clean c n = clean d n := by
  unfold firstD at h
  rw [search_none] at h
  have low : ∀ i : Int, 0 ≤ i → i < bnd c d → clean c i = clean d i := fun i h1 h2 => by
    have := h i h1 (by omega)
    unfold unlike at this
    simpa using this
  have hP := bothP_pos hc hd
  have hT : 0 ≤ lastT c d := by unfold lastT; have := thr_nn hc; omega
  by_cases hb : n < bnd c d
  · exact low n hn hb
  · obtain ⟨l1, l2⟩ := lin_both hc hd
    obtain ⟨P, eP⟩ : ∃ P, P = bothP c d := ⟨_, rfl⟩
    obtain ⟨T, eT⟩ : ∃ T, T = lastT c d := ⟨_, rfl⟩
    have ebn : bnd c d = T + 3 * P := by rw [eT, eP]; rfl
    rw [← eP] at l1 l2 hP
    rw [← eT] at l1 l2 hT
    have hm := Int.emod_nonneg (n - T) (b := P) (by omega)
    have hm2 := Int.emod_lt_of_pos (n - T) hP
    have hd2 := Int.emod_add_mul_ediv (n - T) P
    have hk : 0 ≤ (n - T) / P := Int.ediv_nonneg (by omega) (by omega)
    have z := lin_agree l1 l2 (n := T + (n - T) % P) (by omega) (low _ (by omega) (by omega)) (low _ (by omega) (by omega)) (low _ (by omega) (by omega)) ((n - T) / P) hk
    have e : T + (n - T) % P + (n - T) / P * P = n := by
      rw [Int.mul_comm ((n - T) / P) P]
      omega
    rw [e] at z
    exact z
end Sm

namespace Sm
/-- the same places -/
def Eqv (p q : Pg) : Prop := p.2.2 = q.2.2 ∧ (0 < p.2.2 → p.1 = q.1) ∧ (1 < p.2.2 → p.2.1 = q.2.1)
theorem Eqv.rfl' (p : Pg) : Eqv p p := ⟨rfl, fun _ => rfl, fun _ => rfl⟩
theorem Eqv.clean {p q : Pg} (h : Eqv p q) : cleaned p = cleaned q := by
  obtain ⟨f, s, c⟩ := p
  obtain ⟨f', s', c'⟩ := q
  obtain ⟨h1, h2, h3⟩ := h
  have h1 : c = c' := h1
  subst h1
  have h2 : 0 < c → f = f' := h2
  have h3 : 1 < c → s = s' := h3
  unfold cleaned
  by_cases a : c > 0
  · rw [h2 a]
    by_cases b : c > 1
    · rw [h3 b]
    · simp only [if_neg b]
  · have b : ¬ c > 1 := by omega
    simp only [if_neg a, if_neg b]
/-- with kept places, the begin is a place -/
theorem begin_in {s : Sl} {c : Int} (hs : okS s) (hc : 0 ≤ c) (h : 0 < manyOf s c) : 0 ≤ (endsOf s c).1 ∧ (endsOf s c).1 < c := by
  obtain ⟨a, b, t⟩ := s
  have ht : t ≠ 0 := hs.2.2.2.2
  by_cases h0 : 0 < t
  · rw [many_pos h0] at h
    rw [ends_pos h0]
    have k1 := begP_in (o := a) hc
    have k2 := endP_in (o := b) hc
    have : 0 < endP b c - begP a c := by
      by_cases z : 0 < endP b c - begP a c
      · exact z
      · have := ceil_zero (D := endP b c - begP a c) h0 (by omega)
        omega
    exact ⟨k1.1, by show begP a c < c; omega⟩
  · rw [many_neg h0] at h
    rw [ends_neg h0]
    have k1 := begN_in (o := a) hc
    have k2 := endN_in (o := b) hc
    have e : begN a c - endN b c - t - 1 = begN a c - endN b c + (-t) - 1 := by omega
    rw [e] at h
    have : 0 < begN a c - endN b c := by
      by_cases z : 0 < begN a c - endN b c
      · exact z
      · have := ceil_zero (D := begN a c - endN b c) (t := -t) (by omega) (by omega)
        omega
    exact ⟨by show 0 ≤ begN a c; omega, by show begN a c < c; omega⟩
theorem Eqv.applied {p q : Pg} (h : Eqv p q) (hp : 0 ≤ p.2.2) {s : Sl} (hs : okS s) : Eqv (applied s p) (applied s q) := by
  obtain ⟨f, u, c⟩ := p
  obtain ⟨f', u', c'⟩ := q
  obtain ⟨h1, h2, h3⟩ := h
  have h1 : c = c' := h1
  subst h1
  have h2 : 0 < c → f = f' := h2
  have h3 : 1 < c → u = u' := h3
  have hp : 0 ≤ c := hp
  refine ⟨rfl, fun k => ?_, fun k => ?_⟩
  · have k : 0 < manyOf s c := k
    have b := begin_in hs hp k
    show f + u * (endsOf s c).1 = f' + u' * (endsOf s c).1
    by_cases c1 : 1 < c
    · rw [h2 (by omega), h3 c1]
    · have e : (endsOf s c).1 = 0 := by omega
      rw [e, h2 (by omega)]
      simp
  · have k : 1 < manyOf s c := k
    have m := many_le hs hp
    show u * s.2.2 = u' * s.2.2
    rw [h3 (by omega)]
theorem Eqv.shownF : ∀ (c : List Sl) {p q : Pg}, Eqv p q → 0 ≤ p.2.2 → (∀ s, s ∈ c → okS s) → Eqv (shownF c p) (shownF c q)
  | [], _, _, h, _, _ => h
  | s :: c, p, q, h, hp, hc => Eqv.shownF c (h.applied hp (hc s List.mem_cons_self)) (many_nn _ _) fun s hs => hc s (List.mem_cons_of_mem _ hs)
/-- alike wherever they are put -/
def Same2 (c d : List Sl) : Prop := ∀ p : Pg, 0 ≤ p.2.2 → Eqv (Sm.shownF c p) (Sm.shownF d p)
theorem Same2.clean {c d a b : List Sl} (h : Same2 c d) (ha : ∀ s, s ∈ a → okS s) (hb : ∀ s, s ∈ b → okS s) {n : Int} (hn : 0 ≤ n) : Sm.clean (a ++ c ++ b) n = Sm.clean (a ++ d ++ b) n := by
  unfold Sm.clean
  refine Eqv.clean ?_
  rw [shown_app, shown_app, shown_app, shown_app]
  have p0 := shownF_count a (0, 1, n) ha hn
  have e := h (shown a n) p0.1
  obtain ⟨e1, e2, e3⟩ := e
  have pc : 0 ≤ (Sm.shownF c (shown a n)).2.2 ∨ (Sm.shownF c (shown a n)).2.2 < 0 := by omega
  rcases pc with pc | pc
  · exact Eqv.shownF b ⟨e1, e2, e3⟩ pc hb
  · exact Eqv.shownF b ⟨e1, e2, e3⟩ (by
      cases c with
      | nil => exact p0.1
      | cons s c =>
        exfalso
        have : ∀ (l : List Sl) (q : Pg), 0 ≤ q.2.2 → 0 ≤ (Sm.shownF l q).2.2 := by
          intro l
          induction l with
          | nil => exact fun q h => h
          | cons s l ih => exact fun q _ => ih _ (many_nn _ _)
        have := this (s :: c) (shown a n) p0.1
        omega) hb
theorem firstD_none {c d : List Sl} (h : ∀ n : Int, 0 ≤ n → clean c n = clean d n) : firstD c d = none := by
  unfold firstD
  rw [search_none]
  intro i h1 _
  unfold unlike
  rw [h i h1]
  simp
/-! ### slices of step 1, as numbers -/
theorem ap_from {a : Int} {f u c : Int} (ha : 0 ≤ a) (hc : 0 ≤ c) : applied (some a, none, 1) (f, u, c) = (f + u * min a c, u, c - min a c) := by
  unfold applied
  rw [many_pos (by decide), ends_pos (by decide)]
  simp only [begP, endP, moved, if_neg (show ¬ a < 0 by omega), Int.mul_one]
  refine Prod.ext ?_ (Prod.ext rfl ?_)
  · show f + u * max 0 (min c a) = f + u * min a c
    have e : max 0 (min c a) = min a c := by omega
    rw [e]
  · show max 0 ((c - max 0 (min c a) + 1 - 1) / 1) = c - min a c
    rw [Int.ediv_one]
    omega
theorem ap_to {a : Int} {f u c : Int} (ha : 0 ≤ a) (hc : 0 ≤ c) : applied (none, some a, 1) (f, u, c) = (f, u, min a c) := by
  unfold applied
  rw [many_pos (by decide), ends_pos (by decide)]
  simp only [begP, endP, moved, if_neg (show ¬ a < 0 by omega), Int.mul_one, Int.mul_zero, Int.add_zero]
  refine Prod.ext rfl (Prod.ext rfl ?_)
  show max 0 ((max 0 (min c a) - 0 + 1 - 1) / 1) = min a c
  rw [Int.ediv_one]
  omega
theorem ap_both {a b : Int} {f u c : Int} (ha : 0 ≤ a) (hb : a ≤ b) (hc : 0 ≤ c) : applied (some a, some b, 1) (f, u, c) = (f + u * min a c, u, min b c - min a c) := by
  unfold applied
  rw [many_pos (by decide), ends_pos (by decide)]
  simp only [begP, endP, moved, if_neg (show ¬ a < 0 by omega), if_neg (show ¬ b < 0 by omega), Int.mul_one]
  refine Prod.ext ?_ (Prod.ext rfl ?_)
  · show f + u * max 0 (min c a) = f + u * min a c
    have e : max 0 (min c a) = min a c := by omega
    rw [e]
  · show max 0 ((max 0 (min c b) - max 0 (min c a) + 1 - 1) / 1) = min b c - min a c
    rw [Int.ediv_one]
    omega
/-- without the last a -/
theorem ap_less {a : Int} {f u c : Int} (ha : 0 < a) (hc : 0 ≤ c) : applied (none, some (0 - a), 1) (f, u, c) = (f, u, max 0 (c - a)) := by
  unfold applied
  rw [many_pos (by decide), ends_pos (by decide)]
  simp only [begP, endP, moved, if_pos (show 0 - a < 0 by omega), Int.mul_one, Int.mul_zero, Int.add_zero]
  refine Prod.ext rfl (Prod.ext rfl ?_)
  show max 0 ((max 0 (min c (0 - a + c)) - 0 + 1 - 1) / 1) = max 0 (c - a)
  rw [Int.ediv_one]
  omega
theorem ap_all {f u c : Int} (hc : 0 ≤ c) : applied (none, none, 1) (f, u, c) = (f, u, c) := by
  unfold applied
  rw [many_pos (by decide), ends_pos (by decide)]
  simp only [begP, endP, Int.mul_one, Int.mul_zero, Int.add_zero]
  refine Prod.ext rfl (Prod.ext rfl ?_)
  show max 0 ((c - 0 + 1 - 1) / 1) = c
  rw [Int.ediv_one]
  omega
theorem ap_rev {f u c : Int} (hc : 0 ≤ c) : applied (none, none, -1) (f, u, c) = (f + u * (c - 1), -u, c) := by
  unfold applied
  rw [many_neg (by decide), ends_neg (by decide)]
  simp only [begN, endN]
  refine Prod.ext rfl (Prod.ext ?_ ?_)
  · show u * (-1) = -u
    omega
  · show max 0 ((c - 1 - -1 - -1 - 1) / (- -1)) = c
    rw [show (- -1 : Int) = 1 by decide, Int.ediv_one]
    omega
theorem rule0 {a b : Int} (ha : 0 ≤ a) (hb : 0 ≤ b) : Same2 [(some a, none, 1), (some b, none, 1)] [(some (a + b), none, 1)] := by
  rintro ⟨f, u, c⟩ hc
  have hc : 0 ≤ c := hc
  show Eqv (applied _ (applied _ _)) (applied _ _)
  rw [ap_from ha hc, ap_from hb (by omega), ap_from (by omega) hc]
  refine ⟨by show c - min a c - min b (c - min a c) = c - min (a + b) c; omega, fun _ => ?_, fun _ => rfl⟩
  show f + u * min a c + u * min b (c - min a c) = f + u * min (a + b) c
  have e : min (a + b) c = min a c + min b (c - min a c) := by omega
  rw [e, Int.mul_add]
  omega
theorem rule1 {a b : Int} (ha : 0 ≤ a) (hb : 0 ≤ b) : Same2 [(none, some a, 1), (none, some b, 1)] [(none, some (min a b), 1)] := by
  rintro ⟨f, u, c⟩ hc
  have hc : 0 ≤ c := hc
  show Eqv (applied _ (applied _ _)) (applied _ _)
  rw [ap_to ha hc, ap_to hb (by omega), ap_to (by omega) hc]
  exact ⟨by show min b (min a c) = min (min a b) c; omega, fun _ => rfl, fun _ => rfl⟩
theorem rule2 {a : Int} (ha : 0 ≤ a) : Same2 [(none, none, -1), (some a, none, 1)] [(none, if a > 0 then some (0 - a) else none, 1), (none, none, -1)] := by
  rintro ⟨f, u, c⟩ hc
  have hc : 0 ≤ c := hc
  show Eqv (applied _ (applied _ _)) (applied _ (applied _ _))
  rw [ap_rev hc, ap_from ha hc]
  by_cases h : a > 0
  · rw [if_pos h, ap_less h hc, ap_rev (by omega)]
    refine ⟨by show c - min a c = max 0 (c - a); omega, fun k => ?_, fun _ => rfl⟩
    have k : 0 < c - min a c := k
    show f + u * (c - 1) + -u * min a c = f + u * (max 0 (c - a) - 1)
    have e1 : min a c = a := by omega
    have e2 : max 0 (c - a) - 1 = (c - 1) - a := by omega
    have e3 : u * ((c - 1) - a) = u * (c - 1) - u * a := Int.mul_sub ..
    rw [e1, e2, e3, Int.neg_mul]
    omega
  · rw [if_neg h, ap_all hc, ap_rev hc]
    have e1 : min a c = 0 := by omega
    rw [e1]
    refine ⟨by show c - 0 = c; omega, fun _ => ?_, fun _ => rfl⟩
    show f + u * (c - 1) + -u * 0 = f + u * (c - 1)
    omega
theorem rule3 {a b : Int} (ha : 0 ≤ a) (hb : 0 ≤ b) : Same2 [(some a, none, 1), (none, some b, 1)] [(some a, some (a + b), 1)] := by
  rintro ⟨f, u, c⟩ hc
  have hc : 0 ≤ c := hc
  show Eqv (applied _ (applied _ _)) (applied _ _)
  rw [ap_from ha hc, ap_to hb (by omega), ap_both ha (by omega) hc]
  exact ⟨by show min b (c - min a c) = min (a + b) c - min a c; omega, fun _ => rfl, fun _ => rfl⟩
theorem rule4 {a t : Int} (ha : 0 ≤ a) (ht : 0 < t) : Same2 [(some a, none, 1), (none, none, t)] [(some a, none, t)] := by
  rintro ⟨f, u, c⟩ hc
  have hc : 0 ≤ c := hc
  show Eqv (applied _ (applied _ _)) (applied _ _)
  rw [ap_from ha hc]
  unfold applied
  rw [many_pos ht, many_pos ht, ends_pos ht, ends_pos ht]
  simp only [begP, endP, moved, if_neg (show ¬ a < 0 by omega), Int.mul_zero, Int.add_zero, Int.sub_zero]
  have e : max 0 (min c a) = min a c := by omega
  rw [e]
  exact ⟨rfl, fun _ => rfl, fun _ => rfl⟩
theorem rule5 : Same2 [(none, none, -1), (none, none, -1)] [(none, none, 1)] := by
  rintro ⟨f, u, c⟩ hc
  have hc : 0 ≤ c := hc
  show Eqv (applied _ (applied _ _)) (applied _ _)
  rw [ap_rev hc, ap_rev hc, ap_all hc]
  refine ⟨rfl, fun _ => ?_, fun _ => by show - -u = u; omega⟩
  show f + u * (c - 1) + -u * (c - 1) = f
  rw [Int.neg_mul]
  omega
end Sm

namespace Sm
/-- the places of a progression -/
def plc (p : Pg) : List Int := (List.range p.2.2.toNat).map fun (i : Nat) => p.1 + p.2.1 * (i : Int)
theorem plc_len (p : Pg) : (plc p).length = p.2.2.toNat := by
  unfold plc
  rw [List.length_map, List.length_range]
theorem plc_get {p : Pg} {i : Nat} (h : i < p.2.2.toNat) : (plc p)[i]? = some (p.1 + p.2.1 * (i : Int)) := by
  unfold plc
  rw [List.getElem?_map, List.getElem?_range h]
  rfl
theorem plc_eqv {p q : Pg} (hp : 0 ≤ p.2.2) (hq : 0 ≤ q.2.2) (h : plc p = plc q) : Eqv p q := by
  have hl : p.2.2.toNat = q.2.2.toNat := by rw [← plc_len, ← plc_len, h]
  have e : p.2.2 = q.2.2 := by omega
  have z0 : 0 < p.2.2 → p.1 = q.1 := fun k => by
    have a := plc_get (p := p) (i := 0) (by omega)
    have b := plc_get (p := q) (i := 0) (by omega)
    rw [h, b] at a
    have a := Option.some.inj a
    simp at a
    exact a.symm
  refine ⟨e, z0, fun k => ?_⟩
  have a := plc_get (p := p) (i := 1) (by omega)
  have b := plc_get (p := q) (i := 1) (by omega)
  rw [h, b] at a
  have a := Option.some.inj a
  have z := z0 (by omega)
  simp at a
  omega
theorem Eqv.plc {p q : Pg} (h : Eqv p q) : Sm.plc p = Sm.plc q := by
  obtain ⟨h1, h2, h3⟩ := h
  unfold Sm.plc
  rw [← h1]
  refine List.map_congr_left fun i hi => ?_
  have hi := List.mem_range.mp hi
  rw [h2 (by omega)]
  by_cases k : 1 < p.2.2
  · rw [h3 k]
  · have : i = 0 := by omega
    subst this
    simp
/-- the places of a slice are places -/
theorem slice_place {s : Sl} {c k : Int} (hs : okS s) (hc : 0 ≤ c) (h0 : 0 ≤ k) (h : k < manyOf s c) : 0 ≤ (endsOf s c).1 + s.2.2 * k ∧ (endsOf s c).1 + s.2.2 * k < c := by
  obtain ⟨a, b, t⟩ := s
  have ht : t ≠ 0 := hs.2.2.2.2
  by_cases hp : 0 < t
  · rw [many_pos hp] at h
    rw [ends_pos hp]
    show 0 ≤ begP a c + t * k ∧ begP a c + t * k < c
    have k1 := begP_in (o := a) hc
    have k2 := endP_in (o := b) hc
    have h2 : k + 1 ≤ (endP b c - begP a c + t - 1) / t := by omega
    rw [Int.le_ediv_iff_mul_le hp, Int.add_mul, Int.mul_comm k t] at h2
    have h3 : 0 ≤ t * k := Int.mul_nonneg (by omega) h0
    omega
  · rw [many_neg hp] at h
    rw [ends_neg hp]
    show 0 ≤ begN a c + t * k ∧ begN a c + t * k < c
    have k1 := begN_in (o := a) hc
    have k2 := endN_in (o := b) hc
    obtain ⟨u, rfl⟩ : ∃ u, t = -u := ⟨-t, by omega⟩
    have eu : - -u = u := by omega
    rw [eu] at h
    have hu : 0 < u := by omega
    have h2 : k + 1 ≤ (begN a c - endN b c - -u - 1) / u := by omega
    rw [Int.le_ediv_iff_mul_le hu, Int.add_mul, Int.mul_comm k u] at h2
    have h3 : 0 ≤ u * k := Int.mul_nonneg (by omega) h0
    rw [Int.neg_mul]
    omega
theorem shownF_lin : ∀ (c : List Sl) (f u q : Int), shownF c (f, u, q) = (f + u * (shownF c (0, 1, q)).1, u * (shownF c (0, 1, q)).2.1, (shownF c (0, 1, q)).2.2)
  | [], f, u, q => by
    show (f, u, q) = (f + u * 0, u * 1, q)
    simp
  | s :: c, f, u, q => by
    rw [shownF_cons, shownF_cons]
    unfold applied
    simp only
    rw [shownF_lin c (f + u * (endsOf s q).1) (u * s.2.2) (manyOf s q), shownF_lin c (0 + 1 * (endsOf s q).1) (1 * s.2.2) (manyOf s q)]
    generalize shownF c (0, 1, manyOf s q) = y
    simp only [Int.zero_add, Int.one_mul, Int.mul_add, Int.mul_assoc, Int.add_assoc]
theorem shown_place : ∀ (c : List Sl) (q k : Int), (∀ s, s ∈ c → okS s) → 0 ≤ q → 0 ≤ k → k < (shownF c (0, 1, q)).2.2 → 0 ≤ (shownF c (0, 1, q)).1 + (shownF c (0, 1, q)).2.1 * k ∧ (shownF c (0, 1, q)).1 + (shownF c (0, 1, q)).2.1 * k < q
  | [], q, k, _, hq, h0, h => by
    show 0 ≤ 0 + 1 * k ∧ 0 + 1 * k < q
    have h : k < q := h
    omega
  | s :: c, q, k, hc, hq, h0, h => by
    rw [shownF_cons] at h ⊢
    unfold applied at h ⊢
    simp only at h ⊢
    rw [shownF_lin c (0 + 1 * (endsOf s q).1) (1 * s.2.2) (manyOf s q)] at h ⊢
    have ih := shown_place c (manyOf s q) k (fun s hs => hc s (List.mem_cons_of_mem _ hs)) (many_nn _ _) h0 h
    have z := slice_place (hc s List.mem_cons_self) hq ih.1 ih.2
    have e : 0 + 1 * (endsOf s q).1 + 1 * s.2.2 * (shownF c (0, 1, manyOf s q)).1 + 1 * s.2.2 * (shownF c (0, 1, manyOf s q)).2.1 * k = (endsOf s q).1 + s.2.2 * ((shownF c (0, 1, manyOf s q)).1 + (shownF c (0, 1, manyOf s q)).2.1 * k) := by
      simp only [Int.zero_add, Int.one_mul, Int.mul_add, Int.mul_assoc, Int.add_assoc]
    show 0 ≤ 0 + 1 * (endsOf s q).1 + 1 * s.2.2 * (shownF c (0, 1, manyOf s q)).1 + 1 * s.2.2 * (shownF c (0, 1, manyOf s q)).2.1 * k ∧ 0 + 1 * (endsOf s q).1 + 1 * s.2.2 * (shownF c (0, 1, manyOf s q)).1 + 1 * s.2.2 * (shownF c (0, 1, manyOf s q)).2.1 * k < q
    rw [e]
    exact z
/-- the place at k, or none -/
def itemF (p : Pg) (k : Int) : Option Int := if k < p.2.2 then some (p.1 + p.2.1 * k) else none
theorem item_app {c d : List Sl} {n k : Int} (hd : ∀ s, s ∈ d → okS s) (hm : 0 ≤ (shown c n).2.2) (h0 : 0 ≤ k) : (shown (c ++ d) n).2.2 = (shown d (shown c n).2.2).2.2 ∧
    itemF (shown (c ++ d) n) k = (match itemF (shown d (shown c n).2.2) k with | none => none | some j => itemF (shown c n) j) ∧ ∀ j, itemF (shown d (shown c n).2.2) k = some j → 0 ≤ j ∧ j < (shown c n).2.2 := by
  rw [shown_app]
  generalize shown c n = w at *
  obtain ⟨f, u, m⟩ := w
  have hm : 0 ≤ m := hm
  rw [shownF_lin d f u m]
  show (shownF d (0, 1, m)).2.2 = (shown d m).2.2 ∧ _
  refine ⟨rfl, ?_⟩
  have pl := shown_place d m k hd hm h0
  show itemF (f + u * (shownF d (0, 1, m)).1, u * (shownF d (0, 1, m)).2.1, (shownF d (0, 1, m)).2.2) k = (match itemF (shownF d (0, 1, m)) k with | none => none | some j => itemF (f, u, m) j) ∧ ∀ j, itemF (shownF d (0, 1, m)) k = some j → 0 ≤ j ∧ j < m
  generalize shownF d (0, 1, m) = y at *
  unfold itemF
  simp only
  by_cases h : k < y.2.2
  · simp only [if_pos h]
    have p := pl h
    refine ⟨?_, fun j e => by cases e; exact p⟩
    rw [if_pos p.2, Int.mul_add, Int.mul_assoc]
    simp only [Int.add_assoc]
  · simp only [if_neg h]
    exact ⟨trivial, fun j e => by cases e⟩
end Sm

namespace Sc
open PySem PySem.Spec PyProof.Rows L2 Sm
local macro_rules | `(tactic| walk_at "wp") => `(tactic| simp only [dRet, dSeq, dIfS, dNext, dDrop, dSet, dAsg, dPar, dPar3, dAug, dVar, dC, dOp, dUn, dTest, dTru, dNot, dAnd, dOr, dAndV, dOrV, dNotV, dIf, dChain, dCall, dCons, dNil, dCB, dTup, dLst, dIsi, dStore, kSub, dYes, dFor, dIt, dItL, dRng1, dRng2, dSl, dNoP, dPart, dMt, dRaise,
  qI, qI0, qAdd, qSub, qMul, qFdiv, qFdivN, qMod, qPow, qLt, qLe, qGt, qGe, qEq, qNe, qIsN, qNotN, qIsB, qNotB, qNeg, qAbs, qMax2, qMin2, qLen, qIx, qTupOf, qLstOf, qSlT, qSlL, qCatT, qRepT, kName, kTup, kCons, kNil, start2, List.map_cons, List.map_nil, List.length_cons, List.length_nil, List.replicate, List.cons_append, List.nil_append, List.append_nil,
  List.getElem?_cons_zero, List.getElem?_cons_succ, List.set_cons_zero, List.set_cons_succ, Option.some.injEq, exists_eq_left', exists_eq_left, Dt.int.injEq, Dt.bl.injEq, Dt.ref.injEq, Dt.tup.injEq, Dt.lst.injEq, Nat.sub_zero, Nat.zero_add, Nat.reduceAdd, Nat.reduceSub, asQ_tup, asQ_lst, asL_lst, asT_tup, asQ_put, asL_put, exists_and_left, List.cons.injEq, and_true, isN_int, isN_non, truD_int, truD_non, at_0, at_1, at_2, ix20, ix21, Cells.put_same, Cells.put_put, Cell.lst.injEq, sEq_ii, sEq_bb, sEq_ss, sEq_nn, sEq_ni, sEq_in, true_and, decide_eq_true_eq, and_assoc])

/-! ### kept places, far lists -/
def dPl (l : List Int) : Dt := .lst (l.map Dt.int)
def sp_require_length : Sp2 := psp (α := Dt × Int) (fun a => [a.1, .int a.2]) (fun a => Nr a.1 ∧ isInt a.1 0 a.2 = true) (fun _ => .non)
def sp_require_number : Sp2 := psp (α := Dt × Int) (fun a => [a.1, .int a.2]) (fun a => Nr a.1 ∧ isInt a.1 0 a.2 = true) (fun _ => .non)
def sp_places_of : Sp2 := psp (α := Pg) (fun a => [dPg a]) (fun a => 0 ≤ a.2.2 ∧ a.2.2 ≤ 1000) (fun a => dPl (plc a))
def sp_kept : Sp2 := psp (α := List Sl × Int) (fun a => [dCh a.1, .int a.2]) (fun a => okC a.1 ∧ 0 ≤ a.2 ∧ a.2 ≤ 1000) (fun a => dPl (plc (shown a.1 a.2)))
def sp_progression : Sp2 := psp (α := List Sl × Int) (fun a => [dCh a.1, .int a.2]) (fun a => okC a.1 ∧ 0 ≤ a.2 ∧ a.2 ≤ 1000000000000000) (fun a => dCl (clean a.1 a.2))
def sp_item : Sp2 := psp (α := List Sl × Int × Int) (fun a => [dCh a.1, .int a.2.1, .int a.2.2]) (fun a => okC a.1 ∧ (0 ≤ a.2.1 ∧ a.2.1 ≤ 1000000000000000) ∧ 0 ≤ a.2.2 ∧ a.2.2 ≤ 1000000000000000) (fun a => dO (itemF (shown a.1 a.2.1) a.2.2))
theorem shown_in {c : List Sl} (hc : okC c) {n : Int} (hn : 0 ≤ n) : 0 ≤ (shown c n).2.2 ∧ (shown c n).2.2 ≤ n := shownF_count c (0, 1, n) hc.2 hn
theorem len_req {n hi : Int} (h0 : 0 ≤ n) (h1 : n ≤ hi) : Nr (.int n) ∧ isInt (.int n) 0 hi = true := ⟨.int _, by simp [isInt, h0, h1]⟩
def T_require_length (a_InvalidLength : Addr) : TS2 :=
  (dIfS (dNot (dTest (dCall sp_is_integer (dCons (dVar 0) (dCons (dC (.int 0)) (dCons (dVar 1) dNil)))))) (dRaise a_InvalidLength) dNext)
theorem pure_require_length (a : Addr) : Pure 2 sp_require_length (T_require_length a) := by
  rintro ds S Q E frg ⟨⟨d, hi⟩, rfl, ⟨hn, hc⟩, q⟩
  unfold T_require_length
  walk_at "wp"
  have hc : isInt d 0 hi = true := hc
  exact ⟨(d, 0, hi), rfl, hn, _, rfl, iteN (by show ¬ (!isInt d 0 hi) = true; rw [hc]; decide) q⟩
def T_require_number (a_InvalidNumber : Addr) : TS2 :=
  (dIfS (dNot (dTest (dCall sp_is_integer (dCons (dVar 0) (dCons (dC (.int 0)) (dCons (dVar 1) dNil)))))) (dRaise a_InvalidNumber) dNext)
theorem pure_require_number (a : Addr) : Pure 2 sp_require_number (T_require_number a) := by
  rintro ds S Q E frg ⟨⟨d, hi⟩, rfl, ⟨hn, hc⟩, q⟩
  unfold T_require_number
  walk_at "wp"
  have hc : isInt d 0 hi = true := hc
  exact ⟨(d, 0, hi), rfl, hn, _, rfl, iteN (by show ¬ (!isInt d 0 hi) = true; rw [hc]; decide) q⟩
def T_places_of : TS2 :=
  (dSeq (dAsg (dVar 0) (kTup 3 (kCons (kName 1) (kCons (kName 2) (kCons (kName 3) kNil)))))
  (dRet (dLc (dRng1 (dVar 3)) (kName 4) dYes (dOp qAdd (dVar 1) (dOp qMul (dVar 2) (dVar 4))))))
theorem pure_places_of : Pure 5 sp_places_of T_places_of := by
  rintro ds S Q E frg ⟨⟨f, s, c⟩, rfl, ⟨h0, h1⟩, q⟩
  have h0 : 0 ≤ c := h0
  have h1 : c ≤ 1000 := h1
  unfold T_places_of
  simp only [dPg_eq]
  walk_at "wp"
  refine lc_map (items := rng 0 c.toNat) (fun d => match d with | .int i => .int (f + s * i) | d => d) (fun R r => ⟨_, rfl, c, rfl, by omega, by omega, r⟩) (by rw [rng_len]; omega) (fun d hd S R r => ?_) ?_
  · unfold rng at hd
    obtain ⟨i, hi, rfl⟩ := List.mem_map.mp hd
    have hi := List.mem_range.mp hi
    walk_at "wp"
    exact ⟨.inr ⟨by omega, by omega⟩, r⟩
  · have e : (rng 0 c.toNat).map (fun d => match d with | .int i => Dt.int (f + s * i) | d => d) = (plc (f, s, c)).map Dt.int := by
      unfold rng plc
      rw [List.map_map, List.map_map]
      refine List.map_congr_left fun i _ => ?_
      show Dt.int (f + s * (0 + (i : Int))) = Dt.int (f + s * (i : Int))
      rw [Int.zero_add]
    rw [e]
    exact q
def T_kept : TS2 :=
  (dSeq (dDrop (dCall sp_require_chain (dCons (dVar 0) dNil)))
  (dSeq (dDrop (dCall sp_require_length (dCons (dVar 1) (dCons (dC (.int 1000)) dNil))))
  (dRet (dCall sp_places_of (dCons (dCall sp_shown_by (dCons (dVar 0) (dCons (dVar 1) dNil))) dNil)))))
theorem pure_kept : Pure 2 sp_kept T_kept := by
  rintro ds S Q E frg ⟨⟨c, n⟩, rfl, ⟨hc, h0, h1⟩, q⟩
  have hc : okC c := hc
  have h0 : 0 ≤ n := h0
  have h1 : n ≤ 1000 := h1
  unfold T_kept
  walk_at "wp"
  have z := shown_in hc h0
  exact ⟨_, rfl, chain_req hc, (.int n, 1000), rfl, len_req h0 h1, (c, n), rfl, ⟨hc.2, h0, by show n ≤ 10 ^ 18; omega⟩, _, rfl, ⟨z.1, by show (shown c n).2.2 ≤ 1000; omega⟩, q⟩
def T_progression : TS2 :=
  (dSeq (dDrop (dCall sp_require_chain (dCons (dVar 0) dNil)))
  (dSeq (dDrop (dCall sp_require_length (dCons (dVar 1) (dCons (dC (.int 1000000000000000)) dNil))))
  (dRet (dCall sp_clean (dCons (dVar 0) (dCons (dVar 1) dNil))))))
theorem pure_progression : Pure 2 sp_progression T_progression := by
  rintro ds S Q E frg ⟨⟨c, n⟩, rfl, ⟨hc, h0, h1⟩, q⟩
  have hc : okC c := hc
  have h0 : 0 ≤ n := h0
  have h1 : n ≤ 1000000000000000 := h1
  unfold T_progression
  walk_at "wp"
  exact ⟨_, rfl, chain_req hc, (.int n, 1000000000000000), rfl, len_req h0 h1, (c, n), rfl, ⟨hc.2, h0, by show n ≤ 10 ^ 18; omega⟩, q⟩
def T_item : TS2 :=
  (dSeq (dDrop (dCall sp_require_chain (dCons (dVar 0) dNil)))
  (dSeq (dDrop (dCall sp_require_length (dCons (dVar 1) (dCons (dC (.int 1000000000000000)) dNil))))
  (dSeq (dDrop (dCall sp_require_number (dCons (dVar 2) (dCons (dC (.int 1000000000000000)) dNil))))
  (dSeq (dAsg (dCall sp_shown_by (dCons (dVar 0) (dCons (dVar 1) dNil))) (kTup 3 (kCons (kName 3) (kCons (kName 4) (kCons (kName 5) kNil)))))
  (dRet (dIf (dTest (dOp qLt (dVar 2) (dVar 5))) (dOp qAdd (dVar 3) (dOp qMul (dVar 4) (dVar 2))) (dC .non)))))))
theorem pure_item : Pure 6 sp_item T_item := by
  rintro ds S Q E frg ⟨⟨c, n, k⟩, rfl, ⟨hc, ⟨h0, h1⟩, h2, h3⟩, q⟩
  have hc : okC c := hc
  have h0 : 0 ≤ n := h0
  have h1 : n ≤ 1000000000000000 := h1
  have h2 : 0 ≤ k := h2
  have h3 : k ≤ 1000000000000000 := h3
  unfold T_item
  walk_at "wp"
  refine ⟨_, rfl, chain_req hc, (.int n, 1000000000000000), rfl, len_req h0 h1, (.int k, 1000000000000000), rfl, len_req h2 h3, (c, n), rfl, ⟨hc.2, h0, by show n ≤ 10 ^ 18; omega⟩, ?_⟩
  have q : Q (dO (if k < (shown c n).2.2 then some ((shown c n).1 + (shown c n).2.1 * k) else none)) S := q
  dsimp only
  rw [dPg_eq]
  walk_at "wp"
  by_cases h : k < (shown c n).2.2
  · rw [if_pos h] at q
    exact iteP h ⟨.inr ⟨by omega, by omega⟩, q⟩
  · rw [if_neg h] at q
    exact iteN h q
end Sc

namespace Sm
/-- one slice, from a count of 1 + |start| + |stop| on: the begin and the count move evenly in steps of |t| -/
theorem slice_lin2 (s : Sl) (hs : okS s) : ∃ x y : Int, ((x = 0 ∨ x = 1) ∧ (y = 0 ∨ y = 1) ∧ (y = 1 → (0 < s.2.2 → x = 0) ∧ (¬ 0 < s.2.2 → x = 1))) ∧ ∀ c j : Int, 1 + absB s.1 + absB s.2.1 ≤ c → 0 ≤ j →
    (endsOf s (c + (s.2.2.natAbs : Int) * j)).1 = (endsOf s c).1 + ((s.2.2.natAbs : Int) * j) * x ∧ manyOf s (c + (s.2.2.natAbs : Int) * j) = manyOf s c + j * y := by
  obtain ⟨a, b, t⟩ := s
  have ht : -3 ≤ t ∧ t ≤ 3 ∧ t ≠ 0 := hs.2.2
  have a1 := absB_nn a
  have b1 := absB_nn b
  by_cases h0 : 0 < t
  · have et : (t.natAbs : Int) = t := by omega
    obtain ⟨x, hx, kx⟩ := begP_lin a
    obtain ⟨y, hy, ky⟩ := endP_lin b
    show ∃ x y : Int, ((x = 0 ∨ x = 1) ∧ (y = 0 ∨ y = 1) ∧ (y = 1 → (0 < t → x = 0) ∧ (¬ 0 < t → x = 1))) ∧ ∀ c j : Int, 1 + absB a + absB b ≤ c → 0 ≤ j → (endsOf (a, b, t) (c + (t.natAbs : Int) * j)).1 = (endsOf (a, b, t) c).1 + ((t.natAbs : Int) * j) * x ∧ manyOf (a, b, t) (c + (t.natAbs : Int) * j) = manyOf (a, b, t) c + j * y
    rw [et]
    have tj : ∀ j : Int, 0 ≤ j → 0 ≤ t * j := fun j hj => Int.mul_nonneg (by omega) hj
    refine ⟨x, if x = 0 ∧ y = 1 then 1 else 0, ⟨hx, by split <;> omega, by split <;> omega⟩, fun c j hc hj => ?_⟩
    have k1 := kx c (t * j) (by omega) (tj j hj)
    have k2 := ky c (t * j) (by omega) (tj j hj)
    rw [ends_pos h0, ends_pos h0, many_pos h0, many_pos h0]
    refine ⟨k1, ?_⟩
    have j0 := tj j hj
    rcases hx with rfl | rfl <;> rcases hy with rfl | rfl
    · rw [k1, k2]; simp
    · rw [k1, k2]
      simp only [Int.mul_zero, Int.mul_one, Int.add_zero, and_self, if_true]
      have d : endP b c + t * j - begP a c + t - 1 = (endP b c - begP a c) + t * j + t - 1 := by omega
      rw [d]
      refine ceil_add h0 ?_ hj
      have z1 : begP a c ≤ absB a := by
        have := kx (absB a) (c - absB a) (Int.le_refl _) (by omega)
        rw [show absB a + (c - absB a) = c by omega] at this
        have w := begP_in (o := a) (c := absB a) a1
        omega
      have z2 : c - absB b ≤ endP b c := by
        have := ky (absB b) (c - absB b) (Int.le_refl _) (by omega)
        rw [show absB b + (c - absB b) = c by omega] at this
        have w := endP_in (o := b) (c := absB b) b1
        omega
      omega
    · have n1 : ¬ ((1 : Int) = 0 ∧ (0 : Int) = 1) := by omega
      rw [if_neg n1, Int.mul_zero, Int.add_zero]
      have z1 : c - absB a ≤ begP a c := by
        have := kx (absB a) (c - absB a) (Int.le_refl _) (by omega)
        rw [show absB a + (c - absB a) = c by omega] at this
        have w := begP_in (o := a) (c := absB a) a1
        omega
      have z2 : endP b c ≤ absB b := by
        have := ky (absB b) (c - absB b) (Int.le_refl _) (by omega)
        rw [show absB b + (c - absB b) = c by omega] at this
        have w := endP_in (o := b) (c := absB b) b1
        omega
      rw [ceil_zero h0 (by omega), ceil_zero h0 (by omega)]
    · rw [k1, k2]
      have n1 : ¬ ((1 : Int) = 0 ∧ (1 : Int) = 1) := by omega
      rw [if_neg n1, Int.mul_zero, Int.add_zero]
      have d : endP b c + t * j * 1 - (begP a c + t * j * 1) + t - 1 = endP b c - begP a c + t - 1 := by omega
      rw [d]
  · have et : (t.natAbs : Int) = -t := by omega
    obtain ⟨x, hx, hx1, kx⟩ := begN_lin a
    obtain ⟨y, hy, hy1, ky⟩ := endN_lin b
    show ∃ x y : Int, ((x = 0 ∨ x = 1) ∧ (y = 0 ∨ y = 1) ∧ (y = 1 → (0 < t → x = 0) ∧ (¬ 0 < t → x = 1))) ∧ ∀ c j : Int, 1 + absB a + absB b ≤ c → 0 ≤ j → (endsOf (a, b, t) (c + (t.natAbs : Int) * j)).1 = (endsOf (a, b, t) c).1 + ((t.natAbs : Int) * j) * x ∧ manyOf (a, b, t) (c + (t.natAbs : Int) * j) = manyOf (a, b, t) c + j * y
    rw [et]
    obtain ⟨u, rfl⟩ : ∃ u, t = -u := ⟨-t, by omega⟩
    have eu : - -u = u := by omega
    rw [eu]
    have hu : 0 < u := by omega
    have tj : ∀ j : Int, 0 ≤ j → 0 ≤ u * j := fun j hj => Int.mul_nonneg (by omega) hj
    refine ⟨x, if x = 1 ∧ y = 0 then 1 else 0, ⟨hx, by split <;> omega, by split <;> omega⟩, fun c j hc hj => ?_⟩
    have k1 := kx c (u * j) (by omega) (tj j hj)
    have k2 := ky c (u * j) (by omega) (tj j hj)
    rw [ends_neg h0, ends_neg h0, many_neg h0, many_neg h0, eu]
    refine ⟨k1, ?_⟩
    have j0 := tj j hj
    have r : ∀ p q : Int, p - q - -u - 1 = p - q + u - 1 := fun p q => by omega
    rw [r, r]
    rcases hx with rfl | rfl <;> rcases hy with rfl | rfl
    · rw [k1, k2]; simp
    · have n1 : ¬ ((0 : Int) = 1 ∧ (1 : Int) = 0) := by omega
      rw [if_neg n1, Int.mul_zero, Int.add_zero]
      have z1 : begN a c ≤ absB a := by
        have := kx (1 + absB a) (c - (1 + absB a)) (Int.le_refl _) (by omega)
        rw [show 1 + absB a + (c - (1 + absB a)) = c by omega] at this
        have w := begN_in (o := a) (c := 1 + absB a) (by omega)
        omega
      have z2 : c - absB b ≤ endN b c := by
        have := ky (1 + absB b) (c - (1 + absB b)) (Int.le_refl _) (by omega)
        rw [show 1 + absB b + (c - (1 + absB b)) = c by omega] at this
        have w := hy1 rfl
        omega
      simp only [Int.mul_zero, Int.mul_one, Int.add_zero] at k1 k2
      rw [k1, k2, ceil_zero hu (by omega), ceil_zero hu (by omega)]
    · rw [k1, k2]
      simp only [Int.mul_zero, Int.mul_one, Int.add_zero, and_self, if_true]
      have d : begN a c + u * j - endN b c + u - 1 = (begN a c - endN b c) + u * j + u - 1 := by omega
      rw [d]
      refine ceil_add hu ?_ hj
      have z1 : c - 1 - absB a ≤ begN a c := by
        have := kx (1 + absB a) (c - (1 + absB a)) (Int.le_refl _) (by omega)
        rw [show 1 + absB a + (c - (1 + absB a)) = c by omega] at this
        have w := hx1 rfl
        omega
      have z2 : endN b c ≤ absB b := by
        have := ky (1 + absB b) (c - (1 + absB b)) (Int.le_refl _) (by omega)
        rw [show 1 + absB b + (c - (1 + absB b)) = c by omega] at this
        have w := endN_in (o := b) (c := 1 + absB b) (by omega)
        omega
      omega
    · rw [k1, k2]
      have n1 : ¬ ((1 : Int) = 1 ∧ (1 : Int) = 0) := by omega
      rw [if_neg n1, Int.mul_zero, Int.add_zero]
      have d : begN a c + u * j * 1 - (endN b c + u * j * 1) + u - 1 = begN a c - endN b c + u - 1 := by omega
      rw [d]

/-- even steps, with their slopes -/
def Lin2 (T w : Int) (F : Int → Pg) : Prop := ∀ n, T ≤ n → ∃ f s q m g : Int, 0 ≤ q ∧ (g = 0 ∨ g = 1) ∧ (m = 0 ∨ m = 1) ∧ ((s = w ∧ (g = 1 → m = 0)) ∨ (s = -w ∧ (g = 1 → m = 1))) ∧ ∀ k : Int, 0 ≤ k → F (n + k * w) = (f + k * (m * w), s, q + k * g)
theorem lin2_step {T w : Int} {F : Int → Pg} (h : Lin2 T w F) (hw : 0 < w) {s : Sl} (hs : okS s) : Lin2 (T + w * (1 + absB s.1 + absB s.2.1)) (w * (s.2.2.natAbs : Int)) (fun n => applied s (F n)) := by
  intro n hn
  have hs3 := hs.2.2
  obtain ⟨τ, eτ⟩ : ∃ τ : Int, τ = (s.2.2.natAbs : Int) := ⟨_, rfl⟩
  have hτ : 0 < τ := by omega
  obtain ⟨L, eL⟩ : ∃ L : Int, L = 1 + absB s.1 + absB s.2.1 := ⟨_, rfl⟩
  have a1 := absB_nn s.1
  have b1 := absB_nn s.2.1
  have hL : 0 ≤ L := by omega
  rw [← eL] at hn
  rw [← eτ]
  obtain ⟨f, σ, q, m, g, hq, hg, hm, hσ, k⟩ := h (n - L * w) (by rw [Int.mul_comm L w]; omega)
  have go : ∀ k : Int, 0 ≤ k → F (n + k * (w * τ)) = (f + (L + k * τ) * (m * w), σ, q + (L + k * τ) * g) := fun i hi => by
    rw [← k (L + i * τ) (by have := Int.mul_nonneg hi (Int.le_of_lt hτ); omega)]
    congr 1
    rw [Int.add_mul, Int.mul_assoc i τ w, Int.mul_comm τ w]
    omega
  have st : 0 < s.2.2 ∧ s.2.2 = τ ∨ ¬ 0 < s.2.2 ∧ s.2.2 = -τ := by omega
  rcases hg with rfl | rfl
  · refine ⟨f + L * (m * w) + σ * (endsOf s q).1, σ * s.2.2, manyOf s q, m, 0, many_nn _ _, .inl rfl, hm, ?_, fun i hi => ?_⟩
    · rcases hσ with ⟨e, _⟩ | ⟨e, _⟩ <;> rcases st with ⟨_, e2⟩ | ⟨_, e2⟩ <;> rw [e, e2]
      · exact .inl ⟨rfl, fun z => absurd z (by decide)⟩
      · exact .inr ⟨Int.mul_neg .., fun z => absurd z (by decide)⟩
      · exact .inr ⟨Int.neg_mul .., fun z => absurd z (by decide)⟩
      · exact .inl ⟨Int.neg_mul_neg .., fun z => absurd z (by decide)⟩
    · show applied s (F (n + i * (w * τ))) = _
      rw [go i hi]
      unfold applied
      simp only [Int.mul_zero, Int.add_zero]
      refine Prod.ext ?_ rfl
      show f + (L + i * τ) * (m * w) + σ * (endsOf s q).1 = f + L * (m * w) + σ * (endsOf s q).1 + i * (m * (w * τ))
      have e : i * τ * (m * w) = i * (m * (w * τ)) := by simp only [Int.mul_comm, Int.mul_left_comm, Int.mul_assoc]
      rw [Int.add_mul, e]
      omega
  · obtain ⟨x, y, ⟨hx, hy, hxy⟩, z⟩ := slice_lin2 s hs
    rw [← eτ, ← eL] at z
    have hLB : L ≤ q + L * 1 := by omega
    have fin : ∀ m' : Int, (∀ i : Int, i * τ * (m * w) + σ * (τ * i * x) = i * (m' * (w * τ))) → ∀ i : Int, 0 ≤ i → applied s (F (n + i * (w * τ))) = (f + L * (m * w) + σ * (endsOf s (q + L * 1)).1 + i * (m' * (w * τ)), σ * s.2.2, manyOf s (q + L * 1) + i * y) := fun m' hm' i hi => by
      rw [go i hi]
      have ec : q + (L + i * τ) * 1 = q + L * 1 + τ * i := by
        rw [Int.mul_one, Int.mul_comm i τ]
        omega
      rw [ec]
      have z2 := z (q + L * 1) i hLB hi
      unfold applied
      refine Prod.ext ?_ (Prod.ext rfl z2.2)
      show f + (L + i * τ) * (m * w) + σ * (endsOf s (q + L * 1 + τ * i)).1 = f + L * (m * w) + σ * (endsOf s (q + L * 1)).1 + i * (m' * (w * τ))
      rw [z2.1, ← hm' i, Int.add_mul, Int.mul_add σ]
      omega
    rcases hσ with ⟨e, hm1⟩ | ⟨e, hm1⟩
    · have m0 := hm1 rfl
      refine ⟨f + L * (m * w) + σ * (endsOf s (q + L * 1)).1, σ * s.2.2, manyOf s (q + L * 1), x, y, many_nn _ _, hy, hx, ?_, fin x fun i => ?_⟩
      · rcases st with ⟨e1, e2⟩ | ⟨e1, e2⟩ <;> rw [e, e2]
        · exact .inl ⟨rfl, fun z => (hxy z).1 e1⟩
        · exact .inr ⟨Int.mul_neg .., fun z => (hxy z).2 e1⟩
      · rw [m0, e]
        simp only [Int.zero_mul, Int.mul_zero, Int.zero_add, Int.mul_comm, Int.mul_left_comm, Int.mul_assoc]
    · have m0 := hm1 rfl
      refine ⟨f + L * (m * w) + σ * (endsOf s (q + L * 1)).1, σ * s.2.2, manyOf s (q + L * 1), 1 - x, y, many_nn _ _, hy, by omega, ?_, fin (1 - x) fun i => ?_⟩
      · rcases st with ⟨e1, e2⟩ | ⟨e1, e2⟩ <;> rw [e, e2]
        · exact .inr ⟨Int.neg_mul .., fun z => by have := (hxy z).1 e1; omega⟩
        · exact .inl ⟨Int.neg_mul_neg .., fun z => by have := (hxy z).2 e1; omega⟩
      · rw [m0, e]
        rcases hx with rfl | rfl
        · simp only [Int.sub_zero, Int.one_mul, Int.mul_zero, Int.add_zero, Int.mul_comm, Int.mul_left_comm, Int.mul_assoc]
        · have e3 : (1 : Int) - 1 = 0 := by decide
          rw [e3, Int.zero_mul, Int.mul_zero, Int.one_mul, Int.mul_one, Int.neg_mul]
          have e4 : i * τ * w = w * (τ * i) := by simp only [Int.mul_comm, Int.mul_left_comm, Int.mul_assoc]
          rw [e4]
          omega
theorem lin2_wts : ∀ (c : List Sl) (p : Int × Int) (F : Int → Pg), (∀ s, s ∈ c → okS s) → 0 < p.2 → Lin2 p.1 p.2 F → Lin2 (wts c p).1 (wts c p).2 (fun n => shownF c (F n))
  | [], p, F, _, _, h => h
  | s :: c, p, F, hc, hp, h => by
    have hs := hc s List.mem_cons_self
    have h3 := hs.2.2
    exact lin2_wts c (p.1 + p.2 * (1 + absB s.1 + absB s.2.1), p.2 * (s.2.2.natAbs : Int)) _ (fun s hs => hc s (List.mem_cons_of_mem _ hs)) (Int.mul_pos hp (by omega)) (lin2_step h hp hs)
theorem lin2_shown {c : List Sl} (hc : okC c) : Lin2 (thr c) (per c) (shown c) := by
  refine lin2_wts c (0, 1) (fun n => (0, 1, n)) hc.2 (by decide) fun n hn => ⟨0, 1, n, 0, 1, hn, .inr rfl, .inl rfl, .inl ⟨rfl, fun _ => rfl⟩, fun k _ => ?_⟩
  show ((0 : Int), (1 : Int), n + k * 1) = (0 + k * (0 * 1), 1, n + k * 1)
  rw [Int.zero_mul, Int.mul_zero]
  rfl
end Sm

namespace Sm
/-- the first length from low on that leaves r -/
def fstL (low w r : Int) : Int := low + (r - low) % w
/-- anchor (0 none, 1 start, 2 end), distance, gain, least -/
def rowF (c : List Sl) (r : Int) : Int × Int × Int × Int :=
  let w := per c
  let n := fstL (thr c) w r
  let p := shown c n
  let p1 := shown c (n + w)
  let p2 := shown c (n + 2 * w)
  let g := p1.2.2 - p.2.2
  if p1.2.2 > 0 then (if p2.2.2 > 0 ∧ p1.1 = p2.1 then (1, p1.1, g, p.2.2) else (2, n + w - p1.1, g, p.2.2)) else (0, 0, g, p.2.2)
/-- what a row tells of the lengths it is for -/
def fitsF (c : List Sl) (n : Int) (row : Int × Int × Int × Int) (k : Int) : Prop :=
  (shown c n).2.2 = row.2.2.2 + row.2.2.1 * k ∧ (row.1 = 0 → (shown c n).2.2 = 0) ∧ (row.1 = 1 → (shown c n).2.2 = 0 ∨ (shown c n).1 = row.2.1) ∧ (row.1 = 2 → (shown c n).2.2 = 0 ∨ (shown c n).1 = n - row.2.1)
theorem row_fits {c : List Sl} (hc : okC c) {r k : Int} (hk : 0 ≤ k) : fitsF c (fstL (thr c) (per c) r + k * per c) (rowF c r) k ∧ ((rowF c r).2.2.1 = 0 ∨ (rowF c r).2.2.1 = 1) ∧ ((rowF c r).1 = 0 ∨ (rowF c r).1 = 1 ∨ (rowF c r).1 = 2) := by
  have hw := per_pos hc
  have hn : thr c ≤ fstL (thr c) (per c) r := by
    unfold fstL
    have := Int.emod_nonneg (r - thr c) (b := per c) (by omega)
    omega
  obtain ⟨f, s, q, m, g, hq, hg, hm, hs, z⟩ := lin2_shown hc _ hn
  have z0 := z 0 (Int.le_refl _)
  have z1 := z 1 (by decide)
  have z2 := z 2 (by decide)
  have zk := z k hk
  simp only [Int.zero_mul, Int.add_zero, Int.one_mul] at z0 z1 z2
  unfold fitsF
  rw [zk]
  unfold rowF
  simp only
  rw [z0, z1, z2]
  simp only
  generalize fstL (thr c) (per c) r = n at *
  generalize per c = w at *
  have e : q + k * g = q + g * k := by rw [Int.mul_comm k g]
  by_cases h1 : q + g > 0
  · rw [if_pos h1]
    by_cases h2 : q + 2 * g > 0 ∧ f + m * w = f + 2 * (m * w)
    · rw [if_pos h2]
      have m0 : m * w = 0 := by omega
      refine ⟨⟨by show q + k * g = q + (q + g - q) * k; rw [e]; congr 2; omega, fun h => absurd (show (1 : Int) = 0 from h) (by decide), fun _ => .inr ?_, fun h => absurd (show (1 : Int) = 2 from h) (by decide)⟩, by show q + g - q = 0 ∨ q + g - q = 1; omega, .inr (.inl rfl)⟩
      show f + k * (m * w) = f + m * w
      rw [m0]
      omega
    · rw [if_neg h2]
      have m1 : m = 1 := by
        rcases hm with e | e
        · rw [e] at h2
          simp only [Int.zero_mul, Int.mul_zero, Int.add_zero, and_true] at h2
          omega
        · exact e
      refine ⟨⟨by show q + k * g = q + (q + g - q) * k; rw [e]; congr 2; omega, fun h => absurd (show (2 : Int) = 0 from h) (by decide), fun h => absurd (show (2 : Int) = 1 from h) (by decide), fun _ => .inr ?_⟩, by show q + g - q = 0 ∨ q + g - q = 1; omega, .inr (.inr rfl)⟩
      show f + k * (m * w) = n + k * w - (n + w - (f + m * w))
      rw [m1, Int.one_mul]
      omega
  · rw [if_neg h1]
    have q0 : q = 0 := by omega
    have g0 : g = 0 := by omega
    refine ⟨⟨by show q + k * g = q + (q + g - q) * k; rw [e]; congr 2; omega, fun _ => ?_, fun h => absurd (show (0 : Int) = 1 from h) (by decide), fun h => absurd (show (0 : Int) = 2 from h) (by decide)⟩, by show q + g - q = 0 ∨ q + g - q = 1; omega, .inl rfl⟩
    show q + k * g = 0
    rw [q0, g0]
    omega
end Sm

namespace Sc
open PySem PySem.Spec PyProof.Rows L2 Sm
/-! ### in, not in: flat data -/
def flD : Dt → Bool
  | .non | .int _ | .str _ => true
  | _ => false
def toV : Dt → V
  | .int i => .int i
  | .str x => .str x
  | _ => .non
theorem flD_v {K : PySem.W.Frag} {I : Hp} {d : Dt} {v : V} (h : flD d = true) (r : Rp K I d v) : v = toV d ∧ flatV v = true := by
  cases d <;> (try (cases (show false = true from h))) <;> (simp only [Rp] at r; subst r; exact ⟨rfl, rfl⟩)
theorem flD_vs {K : PySem.W.Frag} {I : Hp} : ∀ {ds : List Dt} {vs : List V}, ds.all flD = true → Rps K I ds vs → vs = ds.map toV ∧ vs.all flatV = true
  | [], vs, _, r => by cases (show vs = [] from r); exact ⟨rfl, rfl⟩
  | d :: ds, vs, h, r => by
    obtain ⟨v, us, e, h1, h2⟩ := r
    rw [List.all_cons, Bool.and_eq_true] at h
    obtain ⟨a1, a2⟩ := flD_v h.1 h1
    obtain ⟨b1, b2⟩ := flD_vs h.2 h2
    subst e
    refine ⟨by rw [a1, b1]; rfl, by rw [List.all_cons, a2, b2]; rfl⟩
section
variable {X : Cx}
def isIn (d : Dt) (es : List Dt) : Bool := inV (toV d) (es.map toV)
def qIn : QO := fun d e S Q => ∃ es, asQ S e = some es ∧ flD d = true ∧ es.all flD = true ∧ Q (.bl (isIn d es)) S
def qNotIn : QO := fun d e S Q => ∃ es, asQ S e = some es ∧ flD d = true ∧ es.all flD = true ∧ Q (.bl (!isIn d es)) S
theorem o_in : O2 X (compareOp .In) qIn := ⟨fun d e S Q Q' hq ⟨es, h1, h2, h3, q⟩ => ⟨es, h1, h2, h3, hq _ _ q⟩, _, op_in_seq, fun d e v u S H Q w r1 r2 ⟨es, h1, h2, h3, q⟩ => by
  obtain ⟨a, xs, e1, k1, k2⟩ := asQ_ok w r2 h1
  obtain ⟨a1, a2⟩ := flD_v h2 r1
  obtain ⟨b1, b2⟩ := flD_vs h3 k2
  refine ⟨a, xs, e1, k1, a2, b2, ?_⟩
  rw [a1, b1]
  exact q _ H ⟨Same.refl _, w⟩ rfl⟩
theorem o_notin : O2 X (compareOp .NotIn) qNotIn := ⟨fun d e S Q Q' hq ⟨es, h1, h2, h3, q⟩ => ⟨es, h1, h2, h3, hq _ _ q⟩, _, op_notIn_seq, fun d e v u S H Q w r1 r2 ⟨es, h1, h2, h3, q⟩ => by
  obtain ⟨a, xs, e1, k1, k2⟩ := asQ_ok w r2 h1
  obtain ⟨a1, a2⟩ := flD_v h2 r1
  obtain ⟨b1, b2⟩ := flD_vs h3 k2
  refine ⟨a, xs, e1, k1, a2, b2, ?_⟩
  rw [a1, b1]
  exact q _ H ⟨Same.refl _, w⟩ rfl⟩
end
end Sc
namespace Sc
open PySem PySem.Spec PyProof.Rows L2 Sm
/-- a comprehension whose elements change nothing; its list may change later -/
theorem comp_mapN {G : TG2} {Te : TE2} {p : Addr} {ds : Ds} {Q : QE} (g : Dt → Dt) : ∀ (items acc : List Dt) (S : Cells), acc.length + items.length < 100000 →
    (∀ d, d ∈ items → ∀ (S : Cells) (R : QE), R (g d) S → G d ds S fun ds2 S2 => Te x0 ds2 S2 R) → Q (.ref p) (S.put p (.lst (acc ++ items.map g))) → dComp G dYes Te p ds Q items acc (S.put p (.lst acc))
  | [], acc, S, _, h, q => ⟨Cells.put_same, .inr (by simpa using q)⟩
  | d :: r, acc, S, hl, h, q => by
    have hl' : acc.length + (r.length + 1) < 100000 := hl
    refine h d List.mem_cons_self _ (fun y S4 => S4 p = some (.lst acc) ∧ acc.length < 100000 ∧ dComp G dYes Te p ds Q r (acc ++ [y]) (S4.put p (.lst (acc ++ [y])))) ⟨Cells.put_same, by omega, ?_⟩
    rw [Cells.put_put]
    refine comp_mapN g r (acc ++ [g d]) S (by rw [List.length_append, List.length_singleton]; omega) (fun e he => h e (List.mem_cons_of_mem _ he)) ?_
    simpa using q
theorem comp_new {G : TG2} {Te : TE2} {ds : Ds} {S : Cells} {Q : QE} {items : List Dt} (g : Dt → Dt) (hl : items.length < 100000)
    (h : ∀ d, d ∈ items → ∀ (S : Cells) (R : QE), R (g d) S → G d ds S fun ds2 S2 => Te x0 ds2 S2 R) (q : newL (items.map g) S Q) : ∀ p, S p = none → dComp G dYes Te p ds Q items [] (S.put p (.lst [])) := fun p hp => by
  rcases q with q | q
  · refine comp_map g items [] S (by simpa using hl) h fun c => ?_
    rw [del_put hp]
    simpa using q
  · exact comp_mapN g items [] S (by simpa using hl) h (by simpa using q p hp)
end Sc

namespace Sc
open PySem PySem.Spec PyProof.Rows L2 Sm
theorem rng_rps {K : PySem.W.Frag} {I : Hp} {a b : Int} : Rps K I (rng a (b - a).toNat) (rgV a b) := by
  unfold rng rgV
  generalize List.range (b - a).toNat = l
  induction l with
  | nil => exact rfl
  | cons i l ih => exact ⟨_, _, rfl, rfl, ih⟩
section
variable {X : Cx} {W : WX} {a b e : Expr} {Ta Tb Te : TE2} {pos : Pos}
/-- list(range(n)) -/
def dListR1 (Te : TE2) : TE2 := fun x ds S Q => Te x ds S fun d S1 => ∃ n, d = .int n ∧ -1000000 ≤ n ∧ n ≤ 1000000 ∧ newL (rng 0 n.toNat) S1 Q
theorem e_listR1 {p p2 pos2 : Pos} (hm : X.mg "list" = none) (hm2 : X.mg "range" = none) (he : E2 X W e Te) (hc : X.calm = true := by rfl) (hg : Gl X "list" := by rfl) (hg2 : Gl X "range" := by rfl)
    (n1 : starEach [e] X.env = (false, eval e X.env) :: starEach [] X.env := by rfl) (n2 : starEach [Expr.Call (.Name "range" p2) [e] [] pos2] X.env = (false, eval (Expr.Call (.Name "range" p2) [e] [] pos2) X.env) :: starEach [] X.env := by rfl) :
    E2 X W (.Call (.Name "list" p) [.Call (.Name "range" p2) [e] [] pos2] [] pos) (dListR1 Te) := ⟨fun x ds S Q Q' h p =>
    he.mono x ds S _ _ (fun d S1 ⟨n, e, h1, h2, q⟩ => ⟨n, e, h1, h2, newL.mono h q⟩) p, by
  obtain ⟨t, p, r⟩ := he.run
  refine ⟨_, pe_listRg hc hg hm (prg_1 hg2 hm2 p n1) n2, fun x ds S σ H Q h q => r x ds S σ H _ h (he.mono x ds S _ _ (fun d S1 ⟨n, e, h1, h2, q⟩ v H1 s1 r1 => ?_) q)⟩
  subst e
  cases (show v = _ from r1)
  refine ⟨n, rfl, ⟨by decide, by decide, by omega, by omega, by omega⟩, fun l hl => newL.run s1 ?_ q hl⟩
  have z := rng_rps (K := X.K) (I := wo S1 H1) (a := 0) (b := n)
  rw [Int.sub_zero] at z
  exact z⟩
/-- list(range(a, b)) -/
def dListR2 (Ta Tb : TE2) : TE2 := fun x ds S Q => Ta x ds S fun d S1 => Tb x ds S1 fun e S2 => ∃ i j, d = .int i ∧ e = .int j ∧ (-1000000 ≤ i ∧ i ≤ 1000000 ∧ -1000000 ≤ j ∧ j ≤ 1000000) ∧ newL (rng i (j - i).toNat) S2 Q
theorem e_listR2 {p p2 pos2 : Pos} (hm : X.mg "list" = none) (hm2 : X.mg "range" = none) (ha : E2 X W a Ta) (hb : E2 X W b Tb) (hc : X.calm = true := by rfl) (hg : Gl X "list" := by rfl) (hg2 : Gl X "range" := by rfl)
    (n1 : starEach [a, b] X.env = (false, eval a X.env) :: starEach [b] X.env := by rfl) (n3 : starEach [b] X.env = (false, eval b X.env) :: starEach [] X.env := by rfl) (n4 : (backTo pos2 (starEach [b] X.env)).any (·.1) = false := by rfl)
    (n2 : starEach [Expr.Call (.Name "range" p2) [a, b] [] pos2] X.env = (false, eval (Expr.Call (.Name "range" p2) [a, b] [] pos2) X.env) :: starEach [] X.env := by rfl) :
    E2 X W (.Call (.Name "list" p) [.Call (.Name "range" p2) [a, b] [] pos2] [] pos) (dListR2 Ta Tb) := ⟨fun x ds S Q Q' h p =>
    ha.mono x ds S _ _ (fun d S1 q => hb.mono x ds S1 _ _ (fun e S2 ⟨i, j, e1, e2, h1, q⟩ => ⟨i, j, e1, e2, h1, newL.mono h q⟩) q) p, by
  obtain ⟨t, p, r⟩ := ha.run
  obtain ⟨t', p', r'⟩ := hb.run
  refine ⟨_, pe_listRg hc hg hm (prg_2 hg2 hm2 p p' n1 n3 n4) n2, fun x ds S σ H Q h q => ?_⟩
  refine r x ds S σ H _ h (ha.mono x ds S _ _ (fun d S1 q v H1 s1 r1 => ?_) q)
  refine r' x ds S1 σ H1 _ (h.step s1) (hb.mono x ds S1 _ _ (fun e S2 ⟨i, j, e1, e2, h1, q5⟩ u H2 s2 r2 => ?_) q)
  subst e1 e2
  cases (show v = _ from r1)
  cases (show u = _ from r2)
  exact ⟨i, j, rfl, rfl, ⟨by omega, by omega, by omega, by omega, by omega⟩, fun l hl => newL.run (s1.trans s2) rng_rps q5 hl⟩⟩
end
end Sc

namespace Sc
open PySem PySem.Spec PyProof.Rows L2 Sm
/-- a comprehension with a test, whose elements change nothing -/
theorem comp_filA {G : TG2} {Tt : TT2} {Te : TE2} {p : Addr} {ds : Ds} {Q : QE} (f : Dt → Bool) (g : Dt → Dt) : ∀ (items acc : List Dt) (S : Cells), acc.length + items.length < 100000 →
    (∀ d, d ∈ items → ∀ (S : Cells) (R1 : QE) (R2 : Cells → Prop), (f d = true → R1 (g d) S) → (f d = false → R2 S) → G d ds S fun ds2 S2 => Tt x0 ds2 S2 fun k S3 => if k = true then Te x0 ds2 S3 R1 else R2 S3) →
    ((∀ c, Q (.lst (acc ++ (items.filter f).map g)) ((S.put p c).del p)) ∨ Q (.ref p) (S.put p (.lst (acc ++ (items.filter f).map g)))) → dComp G Tt Te p ds Q items acc (S.put p (.lst acc))
  | [], acc, S, _, h, q => ⟨Cells.put_same, by
    rcases q with q | q
    · exact .inl (by simpa using q _)
    · exact .inr (by simpa using q)⟩
  | d :: r, acc, S, hl, h, q => by
    have hl' : acc.length + (r.length + 1) < 100000 := hl
    refine h d List.mem_cons_self _ (fun y S4 => S4 p = some (.lst acc) ∧ acc.length < 100000 ∧ dComp G Tt Te p ds Q r (acc ++ [y]) (S4.put p (.lst (acc ++ [y])))) (fun S3 => dComp G Tt Te p ds Q r acc S3) (fun k => ⟨Cells.put_same, by omega, ?_⟩) (fun k => ?_)
    · rw [Cells.put_put]
      refine comp_filA f g r (acc ++ [g d]) S (by rw [List.length_append, List.length_singleton]; omega) (fun e he => h e (List.mem_cons_of_mem _ he)) ?_
      rw [List.filter_cons_of_pos k] at q
      rcases q with q | q
      · exact .inl (by simpa using q)
      · exact .inr (by simpa using q)
    · refine comp_filA f g r acc S (by omega) (fun e he => h e (List.mem_cons_of_mem _ he)) ?_
      rw [List.filter_cons_of_neg (by rw [k]; decide)] at q
      exact q
theorem comp_fil {G : TG2} {Tt : TT2} {Te : TE2} {ds : Ds} {S : Cells} {Q : QE} {items : List Dt} (f : Dt → Bool) (g : Dt → Dt) (hl : items.length < 100000)
    (h : ∀ d, d ∈ items → ∀ (S : Cells) (R1 : QE) (R2 : Cells → Prop), (f d = true → R1 (g d) S) → (f d = false → R2 S) → G d ds S fun ds2 S2 => Tt x0 ds2 S2 fun k S3 => if k = true then Te x0 ds2 S3 R1 else R2 S3)
    (q : newL ((items.filter f).map g) S Q) : ∀ p, S p = none → dComp G Tt Te p ds Q items [] (S.put p (.lst [])) := fun p hp => by
  refine comp_filA f g items [] S (by simpa using hl) h ?_
  rcases q with q | q
  · refine .inl fun c => ?_
    rw [del_put hp]
    simpa using q
  · exact .inr (by simpa using q p hp)
end Sc

namespace Sm
/-- where an item-by-item cut begins, where it ends -/
def hereP (o : Option Int) (c : Int) : Int := match o with | none => 0 | some b => if b < 0 then b + c else b
def stopP (o : Option Int) (c : Int) : Int := match o with | none => c | some b => if b < 0 then b + c else b
def hereN (o : Option Int) (c : Int) : Int := match o with | none => c - 1 | some b => if b < 0 then b + c else b
def stopN (o : Option Int) (c : Int) : Int := match o with | none => -1 | some b => if b < 0 then max (b + c) (-1) else b
theorem begP_here {o : Option Int} {c : Int} (hc : 0 ≤ c) : begP o c = min c (max (hereP o c) 0) := by
  cases o with
  | none => simp only [begP, hereP]; omega
  | some b => simp only [begP, hereP, moved]; split <;> omega
theorem endP_stop {o : Option Int} {c : Int} (hc : 0 ≤ c) : endP o c = max 0 (min (stopP o c) c) := by
  cases o with
  | none => simp only [endP, stopP]; omega
  | some b => simp only [endP, stopP, moved]; split <;> omega
theorem begN_here {o : Option Int} {c : Int} (hc : 0 ≤ c) : begN o c = max (-1) (min (hereN o c) (c - 1)) := by
  cases o with
  | none => simp only [begN, hereN]; omega
  | some b => simp only [begN, hereN, moved]; split <;> omega
theorem endN_stop {o : Option Int} {c : Int} (hc : 0 ≤ c) : endN o c = min (stopN o c) (c - 1) ∧ -1 ≤ stopN o c := by
  cases o with
  | none => simp only [endN, stopN]; omega
  | some b => simp only [endN, stopN, moved]; split <;> omega
/-- the rounds of the cut, step > 0 -/
theorem cut_pos {a b : Option Int} {t c i : Int} (ht : 0 < t) (hc : 0 ≤ c) (hi : 0 ≤ i) : (max (hereP a c) 0 + t * i < min (stopP b c) c ↔ i < manyOf (a, b, t) c) ∧ (i < manyOf (a, b, t) c → max (hereP a c) 0 = (endsOf (a, b, t) c).1) := by
  rw [many_pos ht, ends_pos ht]
  show _ ∧ (_ → _ = begP a c)
  rw [begP_here hc, endP_stop hc]
  obtain ⟨B, hB⟩ : ∃ B, B = max (hereP a c) 0 := ⟨_, rfl⟩
  obtain ⟨M, hM⟩ : ∃ M, M = min (stopP b c) c := ⟨_, rfl⟩
  rw [← hB, ← hM]
  have hB0 : 0 ≤ B := by omega
  have hMc : M ≤ c := by omega
  have ti : 0 ≤ t * i := Int.mul_nonneg (by omega) hi
  by_cases h : B ≤ c
  · have e : min c B = B := by omega
    rw [e]
    have k : i < max 0 ((max 0 M - B + t - 1) / t) ↔ i + 1 ≤ (max 0 M - B + t - 1) / t := by omega
    rw [k, Int.le_ediv_iff_mul_le ht, Int.add_mul, Int.mul_comm i t]
    exact ⟨by omega, fun _ => rfl⟩
  · have e : min c B = c := by omega
    rw [e]
    have z := ceil_zero (D := max 0 M - c) ht (by omega)
    rw [z]
    exact ⟨by omega, fun h => by omega⟩
/-- the rounds of the cut, step < 0 -/
theorem cut_neg {a b : Option Int} {t c i : Int} (ht : t < 0) (hc : 0 ≤ c) (hi : 0 ≤ i) : (min (hereN a c) (c - 1) + t * i > stopN b c ↔ i < manyOf (a, b, t) c) ∧ (i < manyOf (a, b, t) c → min (hereN a c) (c - 1) = (endsOf (a, b, t) c).1) := by
  have h0 : ¬ 0 < t := by omega
  rw [many_neg h0, ends_neg h0]
  show _ ∧ (_ → _ = begN a c)
  obtain ⟨e1, e2⟩ := endN_stop (o := b) hc
  rw [begN_here hc, e1]
  obtain ⟨B, hB⟩ : ∃ B, B = min (hereN a c) (c - 1) := ⟨_, rfl⟩
  obtain ⟨M, hM⟩ : ∃ M, M = stopN b c := ⟨_, rfl⟩
  rw [← hB, ← hM]
  rw [← hM] at e2
  have hBc : B ≤ c - 1 := by omega
  obtain ⟨u, rfl⟩ : ∃ u, t = -u := ⟨-t, by omega⟩
  have hu : 0 < u := by omega
  have eu : - -u = u := by omega
  have ui : 0 ≤ u * i := Int.mul_nonneg (by omega) hi
  rw [eu, Int.neg_mul]
  by_cases h : -1 ≤ B
  · have e : max (-1) B = B := by omega
    rw [e]
    have k : i < max 0 ((B - min M (c - 1) - -u - 1) / u) ↔ i + 1 ≤ (B - min M (c - 1) - -u - 1) / u := by omega
    rw [k, Int.le_ediv_iff_mul_le hu, Int.add_mul, Int.mul_comm i u]
    exact ⟨by omega, fun _ => rfl⟩
  · have e : max (-1) B = -1 := by omega
    rw [e]
    have d : -1 - min M (c - 1) - -u - 1 = (-1 - min M (c - 1)) + u - 1 := by omega
    rw [d]
    have z := ceil_zero (D := -1 - min M (c - 1)) hu (by omega)
    rw [z]
    exact ⟨by omega, fun h => by omega⟩
/-- the places of a slice of a progression: those of the places -/
theorem plc_applied {s : Sl} {p : Pg} {i : Nat} (hs : okS s) (hp : 0 ≤ p.2.2) (hi : (i : Int) < manyOf s p.2.2) :
    (plc p)[((endsOf s p.2.2).1 + s.2.2 * (i : Int)).toNat]? = some ((applied s p).1 + (applied s p).2.1 * (i : Int)) := by
  have z := slice_place hs hp (k := (i : Int)) (by omega) hi
  rw [plc_get (by omega), Int.toNat_of_nonneg z.1]
  show some (p.1 + p.2.1 * ((endsOf s p.2.2).1 + s.2.2 * (i : Int))) = some (p.1 + p.2.1 * (endsOf s p.2.2).1 + p.2.1 * s.2.2 * (i : Int))
  rw [Int.mul_add, Int.mul_assoc]
  simp only [Int.add_assoc]
theorem plc_snoc {p : Pg} {i : Nat} : plc (p.1, p.2.1, ((i + 1 : Nat) : Int)) = plc (p.1, p.2.1, (i : Int)) ++ [p.1 + p.2.1 * (i : Int)] := by
  unfold plc
  simp only [Int.toNat_natCast]
  rw [List.range_succ, List.map_append]
  rfl
theorem plc_start (n : Nat) : plc (0, 1, (n : Int)) = (List.range n).map fun (i : Nat) => (i : Int) := by
  unfold plc
  simp only [Int.toNat_natCast, Int.zero_add, Int.one_mul]
end Sm

namespace Sc
open PySem PySem.Spec PyProof.Rows L2 Sm
local macro_rules | `(tactic| walk_at "wp") => `(tactic| simp only [dRet, dSeq, dIfS, dNext, dDrop, dSet, dAsg, dPar, dPar3, dAug, dVar, dC, dOp, dUn, dTest, dTru, dNot, dAnd, dOr, dAndV, dOrV, dNotV, dIf, dChain, dCall, dCons, dNil, dCB, dTup, dLst, dIsi, dStore, kSub, dYes, dFor, dIt, dItL, dRng1, dRng2, dSl, dNoP, dPart, dMt, dRaise,
  qI, qI0, qAdd, qSub, qMul, qFdiv, qFdivN, qMod, qPow, qLt, qLe, qGt, qGe, qEq, qNe, qIsN, qNotN, qIsB, qNotB, qNeg, qAbs, qMax2, qMin2, qLen, qIx, qTupOf, qLstOf, qSlT, qSlL, qCatT, qRepT, kName, kTup, kCons, kNil, start2, List.map_cons, List.map_nil, List.length_cons, List.length_nil, List.replicate, List.cons_append, List.nil_append, List.append_nil,
  List.getElem?_cons_zero, List.getElem?_cons_succ, List.set_cons_zero, List.set_cons_succ, Option.some.injEq, exists_eq_left', exists_eq_left, Dt.int.injEq, Dt.bl.injEq, Dt.ref.injEq, Dt.tup.injEq, Dt.lst.injEq, Nat.sub_zero, Nat.zero_add, Nat.reduceAdd, Nat.reduceSub, asQ_tup, asQ_lst, asL_lst, asT_tup, asQ_put, asL_put, exists_and_left, List.cons.injEq, and_true, isN_int, isN_non, truD_int, truD_non, at_0, at_1, at_2, ix20, ix21, Cells.put_same, Cells.put_put, Cell.lst.injEq, sEq_ii, sEq_bb, sEq_ss, sEq_nn, sEq_ni, sEq_in, true_and, decide_eq_true_eq, and_assoc])

/-! ### item by item -/
def sp__law_cut : Sp2 := fun ds S Q _ => ∃ (s : Sl) (p : Pg) (d : Dt), ds = [dS s, d] ∧ asQ S d = some ((plc p).map Dt.int) ∧ okS s ∧ 0 ≤ p.2.2 ∧ p.2.2 ≤ 90000 ∧ Q (dPl (plc (applied s p))) S
theorem cut_mono : sp__law_cut.Mono := ⟨fun ds S Q Q' E E' h _ ⟨s, p, d, e, h1, h2, h3, h4, q⟩ => ⟨s, p, d, e, h1, h2, h3, h4, h _ _ q⟩⟩
theorem cut_lenD : ∀ ds S Q E, sp__law_cut ds S Q E → ds.length = 2 := fun ds S Q E ⟨s, p, d, e, _⟩ => by rw [e]; rfl
theorem asQ_new {S : Cells} {a : Addr} {c : Cell} {d : Dt} {l : List Dt} (ha : S a = none) (h : asQ S d = some l) : asQ (S.put a c) d = some l := by
  cases d with
  | ref b =>
    have h' : (match S b with | some (.lst ds) => some ds | _ => none) = some l := h
    have ne : b ≠ a := fun e => by
      rw [e, ha] at h'
      cases h'
    show (match (S.put a c) b with | some (.lst ds) => some ds | _ => none) = some l
    rw [Cells.put_ne ne]
    exact h'
  | _ => exact h
theorem at_plc {p : Pg} {k : Int} {v : Int} (h0 : 0 ≤ k) (h : (plc p)[k.toNat]? = some v) : atI ((plc p).map Dt.int) k = some (.int v) := by
  have hl : k.toNat < (plc p).length := (List.getElem?_eq_some_iff.mp h).1
  have z := at_get (l := (plc p).map Dt.int) h0 (by rw [List.length_map]; omega)
  obtain ⟨a, e, _, g⟩ := z
  rw [e]
  rw [List.getElem?_map, h] at g
  exact g.symm
def T__law_cut : TS2 :=
  (dSeq (dAsg (dVar 0) (kTup 3 (kCons (kName 2) (kCons (kName 3) (kCons (kName 4) kNil)))))
  (dSeq (dPar 5 6 (dCons (dCB qLen (dCons (dVar 1) dNil)) (dCons (dLst dNil) dNil)))
  (dSeq (dIfS (dTest (dOp qGt (dVar 4) (dC (.int 0)))) (dSeq (dSet 7 (dIf (dTest (dOp qIsN (dVar 2) (dC .non))) (dC (.int 0)) (dIf (dTest (dOp qLt (dVar 2) (dC (.int 0)))) (dOp qAdd (dVar 2) (dVar 5)) (dVar 2))))
  (dSeq (dSet 8 (dIf (dTest (dOp qIsN (dVar 3) (dC .non))) (dVar 5) (dIf (dTest (dOp qLt (dVar 3) (dC (.int 0)))) (dOp qAdd (dVar 3) (dVar 5)) (dVar 3))))
  (dSeq (dSet 7 (dCB qMax2 (dCons (dVar 7) (dCons (dC (.int 0)) dNil))))
  (dSeq (dWhile (dTest (dOp qLt (dVar 7) (dCB qMin2 (dCons (dVar 8) (dCons (dVar 5) dNil))))) (dSeq (dDrop (dMt qAppend (dVar 6) (dCons (dOp qIx (dVar 1) (dVar 7)) dNil)))
  (dSet 7 (dOp qAdd (dVar 7) (dVar 4)))))
  (dRet (dVar 6)))))) dNext)
  (dSeq (dSet 7 (dIf (dTest (dOp qIsN (dVar 2) (dC .non))) (dOp qSub (dVar 5) (dC (.int 1))) (dIf (dTest (dOp qLt (dVar 2) (dC (.int 0)))) (dOp qAdd (dVar 2) (dVar 5)) (dVar 2))))
  (dSeq (dSet 8 (dIf (dTest (dOp qIsN (dVar 3) (dC .non))) (dUn qNeg (dC (.int 1))) (dIf (dTest (dOp qLt (dVar 3) (dC (.int 0)))) (dCB qMax2 (dCons (dOp qAdd (dVar 3) (dVar 5)) (dCons (dUn qNeg (dC (.int 1))) dNil))) (dVar 3))))
  (dSeq (dSet 7 (dCB qMin2 (dCons (dVar 7) (dCons (dOp qSub (dVar 5) (dC (.int 1))) dNil))))
  (dSeq (dWhile (dTest (dOp qGt (dVar 7) (dVar 8))) (dSeq (dDrop (dMt qAppend (dVar 6) (dCons (dOp qIx (dVar 1) (dVar 7)) dNil)))
  (dSet 7 (dOp qAdd (dVar 7) (dVar 4)))))
  (dRet (dVar 6)))))))))
theorem pure__law_cut : Pure 9 sp__law_cut T__law_cut := by
  rintro ds S Q E frg ⟨⟨a, b, t⟩, p, d, rfl, hd, hs, hp0, hp1, q⟩
  have ht : -3 ≤ t ∧ t ≤ 3 ∧ t ≠ 0 := hs.2.2
  unfold T__law_cut
  simp only [dS_eq]
  walk_at "wp"
  refine ⟨_, hd, by decide, .inr fun r hr => ?_⟩
  have hd2 : ∀ c, asQ (S.put r c) d = some ((plc p).map Dt.int) := fun c => asQ_new hr hd
  have ec : (((plc p).map Dt.int).length : Int) = p.2.2 := by
    rw [List.length_map, plc_len]
    omega
  rw [ec]
  obtain ⟨c, hcc⟩ : ∃ c, c = p.2.2 := ⟨_, rfl⟩
  rw [← hcc] at ec ⊢
  have hc0 : 0 ≤ c := by omega
  have mle := many_le hs hc0
  have loopP : 0 < t → ∀ (hh ee : Int) (u0 u2 u3 : Option Dt), hh = max (hereP a c) 0 → ee = stopP b c →
      dWhile (dTest (dOp qLt (dVar 7) (dCB qMin2 (dCons (dVar 8) (dCons (dVar 5) dNil))))) (dSeq (dDrop (dMt qAppend (dVar 6) (dCons (dOp qIx (dVar 1) (dVar 7)) dNil))) (dSet 7 (dOp qAdd (dVar 7) (dVar 4)))) (X0 E)
        { nx := fun ds' S' => ∃ d, ds'[6]? = some (some d) ∧ Q d S', rt := Q } [u0, some d, u2, u3, some (.int t), some (.int c), some (.ref r), some (.int hh), some (.int ee)] (S.put r (.lst [])) := by
    intro h0 hh ee u0 u2 u3 e1 e2
    refine wh_inv (fun (i : Nat) ds S' => (i : Int) ≤ manyOf (a, b, t) c ∧ S' = S.put r (.lst ((plc ((applied (a, b, t) p).1, (applied (a, b, t) p).2.1, (i : Int))).map Dt.int)) ∧ ds = [u0, some d, u2, u3, some (.int t), some (.int c), some (.ref r), some (.int (hh + t * (i : Int))), some (.int ee)]) (fun i => (manyOf (a, b, t) c).toNat - i) ?_ (a := 0) ⟨many_nn _ _, rfl, by simp⟩
    rintro i ds S' N ⟨hi, rfl, rfl⟩ hN
    have cp := cut_pos (a := a) (b := b) (i := (i : Int)) h0 hc0 (by omega)
    rw [← e1, ← e2] at cp
    walk_at "wp"
    simp only [min_if]
    refine ite2 (fun h => ?_) (fun h => ?_)
    · have hm := cp.1.mp (by first | exact h | simpa using h)
      have pa := plc_applied (p := p) (i := i) hs hp0 (by rw [← hcc]; exact hm)
      rw [← hcc] at pa
      have eh := cp.2 hm
      have h00 : 0 ≤ hh + t * (i : Int) := by
        have z := slice_place hs hc0 (k := (i : Int)) (by omega) hm
        rw [eh]
        exact z.1
      refine ⟨⟨_, asL_put⟩, _, hd2 _, _, at_plc h00 (by rw [eh]; exact pa), r, _, _, rfl, rfl, Cells.put_same, by rw [List.length_map, plc_len]; simp only [Int.toNat_natCast]; omega, ?_⟩
      rw [Cells.put_put]
      refine hN (i + 1) _ _ (by omega) ⟨by omega, ?_, ?_⟩
      · rw [plc_snoc (p := applied (a, b, t) p), List.map_append]
        rfl
      · rw [show ((i + 1 : Nat) : Int) = (i : Int) + 1 by omega, Int.mul_add, Int.mul_one, Int.add_assoc]
    · have hm : ¬ (i : Int) < manyOf (a, b, t) c := fun z => by
        have := cp.1.mpr z
        first
          | exact h this
          | simp [this] at h
      have hie : (i : Int) = manyOf (a, b, t) p.2.2 := by rw [← hcc]; omega
      rw [hie]
      exact frg.fz S r _ hr q
  have loopN : t < 0 → ∀ (hh ee : Int) (u0 u2 u3 : Option Dt), hh = min (hereN a c) (c - 1) → ee = stopN b c →
      dWhile (dTest (dOp qGt (dVar 7) (dVar 8))) (dSeq (dDrop (dMt qAppend (dVar 6) (dCons (dOp qIx (dVar 1) (dVar 7)) dNil))) (dSet 7 (dOp qAdd (dVar 7) (dVar 4)))) (X0 E)
        { nx := fun ds' S' => ∃ d, ds'[6]? = some (some d) ∧ Q d S', rt := Q } [u0, some d, u2, u3, some (.int t), some (.int c), some (.ref r), some (.int hh), some (.int ee)] (S.put r (.lst [])) := by
    intro h0 hh ee u0 u2 u3 e1 e2
    refine wh_inv (fun (i : Nat) ds S' => (i : Int) ≤ manyOf (a, b, t) c ∧ S' = S.put r (.lst ((plc ((applied (a, b, t) p).1, (applied (a, b, t) p).2.1, (i : Int))).map Dt.int)) ∧ ds = [u0, some d, u2, u3, some (.int t), some (.int c), some (.ref r), some (.int (hh + t * (i : Int))), some (.int ee)]) (fun i => (manyOf (a, b, t) c).toNat - i) ?_ (a := 0) ⟨many_nn _ _, rfl, by simp⟩
    rintro i ds S' N ⟨hi, rfl, rfl⟩ hN
    have cp := cut_neg (a := a) (b := b) (i := (i : Int)) h0 hc0 (by omega)
    rw [← e1, ← e2] at cp
    walk_at "wp"
    try simp only [min_if]
    refine ite2 (fun h => ?_) (fun h => ?_)
    · have hm := cp.1.mp (by first | exact h | simpa using h)
      have pa := plc_applied (p := p) (i := i) hs hp0 (by rw [← hcc]; exact hm)
      rw [← hcc] at pa
      have eh := cp.2 hm
      have h00 : 0 ≤ hh + t * (i : Int) := by
        have z := slice_place hs hc0 (k := (i : Int)) (by omega) hm
        rw [eh]
        exact z.1
      refine ⟨⟨_, asL_put⟩, _, hd2 _, _, at_plc h00 (by rw [eh]; exact pa), r, _, _, rfl, rfl, Cells.put_same, by rw [List.length_map, plc_len]; simp only [Int.toNat_natCast]; omega, ?_⟩
      rw [Cells.put_put]
      refine hN (i + 1) _ _ (by omega) ⟨by omega, ?_, ?_⟩
      · rw [plc_snoc (p := applied (a, b, t) p), List.map_append]
        rfl
      · rw [show ((i + 1 : Nat) : Int) = (i : Int) + 1 by omega, Int.mul_add, Int.mul_one, Int.add_assoc]
    · have hm : ¬ (i : Int) < manyOf (a, b, t) c := fun z => by
        have := cp.1.mpr z
        first
          | exact h this
          | simp [this] at h
      have hie : (i : Int) = manyOf (a, b, t) p.2.2 := by rw [← hcc]; omega
      rw [hie]
      exact frg.fz S r _ hr q
  dsimp only
  by_cases h0 : 0 < t
  · refine iteP h0 ?_
    have L := loopP h0
    cases a <;> cases b <;> simp only [dO] <;> (try walk_at "wp") <;> simp only [max_if, Bool.false_eq_true, if_true, if_false]
    · exact L _ _ _ _ _ (by simp only [hereP]; try omega) (by simp only [stopP]; try omega)
    · split <;> rename_i h <;> exact L _ _ _ _ _ (by simp only [hereP]; try omega) (by simp only [stopP, h, if_true, if_false]; try omega)
    · split <;> rename_i h <;> exact L _ _ _ _ _ (by simp only [hereP, h, if_true, if_false]; try omega) (by simp only [stopP]; try omega)
    · split <;> rename_i h <;> split <;> rename_i h2 <;> exact L _ _ _ _ _ (by simp only [hereP, h, if_true, if_false]; try omega) (by simp only [stopP, h2, if_true, if_false]; try omega)
  · refine iteN h0 ?_
    have L := loopN (by omega)
    cases a <;> cases b <;> simp only [dO] <;> (try walk_at "wp") <;> simp only [max_if, min_if, Bool.false_eq_true, if_true, if_false]
    · exact L _ _ _ _ _ (by simp only [hereN]; try omega) (by simp only [stopN]; try omega)
    · split <;> rename_i h <;> exact L _ _ _ _ _ (by simp only [hereN]; try omega) (by simp only [stopN, h, if_true, if_false]; try omega)
    · split <;> rename_i h <;> exact L _ _ _ _ _ (by simp only [hereN, h, if_true, if_false]; try omega) (by simp only [stopN]; try omega)
    · split <;> rename_i h <;> split <;> rename_i h2 <;> exact L _ _ _ _ _ (by simp only [hereN, h, if_true, if_false]; try omega) (by simp only [stopN, h2, if_true, if_false]; try omega)
def T__law_kept : TS2 :=
  (dSeq (dSet 2 (dListR1 (dVar 1)))
  (dSeq (dFor (dIt (dVar 0)) (kName 3) (dSet 2 (dCall sp__law_cut (dCons (dVar 3) (dCons (dVar 2) dNil)))))
  (dRet (dVar 2))))
def sp__law_kept : Sp2 := psp (α := List Sl × Int) (fun a => [dCh a.1, .int a.2]) (fun a => (∀ s, s ∈ a.1 → okS s) ∧ 0 ≤ a.2 ∧ a.2 ≤ 90000) (fun a => dPl (plc (shown a.1 a.2)))
theorem pure__law_kept : Pure 4 sp__law_kept T__law_kept := by
  rintro ds S Q E frg ⟨⟨c, n⟩, rfl, ⟨hc, h0, h1⟩, q⟩
  have h0 : 0 ≤ n := h0
  have h1 : n ≤ 90000 := h1
  unfold T__law_kept dListR1
  walk_at "wp"
  have e : Dt.lst (rng 0 n.toNat) = dPl (plc (0, 1, n)) := by
    unfold dPl rng plc
    rw [List.map_map]
    congr 1
    refine List.map_congr_left fun i _ => ?_
    show Dt.int (0 + (i : Int)) = Dt.int (0 + 1 * (i : Int))
    rw [Int.one_mul]
  refine ⟨by omega, by omega, .inl ?_⟩
  rw [e]
  refine ⟨_, rfl, ?_⟩
  refine loop_fold dS (fun (p : Pg) ds S' => S' = S ∧ 0 ≤ p.2.2 ∧ p.2.2 ≤ n ∧ ∃ u, ds = [some (dCh c), some (.int n), some (dPl (plc p)), u]) (fun p s => applied s p) (b := (0, 1, n)) ⟨rfl, h0, Int.le_refl _, _, rfl⟩ ?_ ?_
  · rintro p s ds S' N hs ⟨rfl, k0, k1, u, rfl⟩ hN
    walk_at "wp"
    exact ⟨s, p, _, rfl, rfl, hc s hs, k0, by omega, hN _ _ ⟨rfl, many_nn _ _, by have := many_le (hc s hs) k0; show manyOf s p.2.2 ≤ n; omega, _, rfl⟩⟩
  · rintro ds S' ⟨rfl, k0, k1, u, rfl⟩
    walk_at "wp"
    exact q
end Sc

namespace Sc
open PySem PySem.Spec PyProof.Rows L2 Sm
/-- a promise by a relation -/
def rsp {α β : Type} (enc : α → List Dt) (pre : α → Prop) (post : α → β → Prop) (res : β → Dt) : Sp2 := fun ds S Q _ => ∃ a, ds = enc a ∧ pre a ∧ ∀ r, post a r → Q (res r) S
theorem rsp.mono {α β : Type} {enc : α → List Dt} {pre : α → Prop} {post : α → β → Prop} {res : β → Dt} : (rsp enc pre post res).Mono := ⟨fun ds S Q Q' E E' h _ ⟨a, e, p, q⟩ => ⟨a, e, p, fun r k => h _ _ (q r k)⟩⟩
theorem rsp.len {α β : Type} {enc : α → List Dt} {pre : α → Prop} {post : α → β → Prop} {res : β → Dt} {n : Nat} (h : ∀ a, (enc a).length = n) : ∀ ds S Q E, rsp enc pre post res ds S Q E → ds.length = n := fun ds S Q E ⟨a, e, _, _⟩ => by rw [e]; exact h a
/-- a promise of a new list -/
def lsp {α : Type} (enc : α → List Dt) (pre : α → Prop) (res : α → List Dt) : Sp2 := fun ds S Q _ => ∃ a, ds = enc a ∧ pre a ∧ newL (res a) S Q
theorem lsp.mono {α : Type} {enc : α → List Dt} {pre : α → Prop} {res : α → List Dt} : (lsp enc pre res).Mono := ⟨fun ds S Q Q' E E' h _ ⟨a, e, p, q⟩ => ⟨a, e, p, newL.mono h q⟩⟩
theorem lsp.len {α : Type} {enc : α → List Dt} {pre : α → Prop} {res : α → List Dt} {n : Nat} (h : ∀ a, (enc a).length = n) : ∀ ds S Q E, lsp enc pre res ds S Q E → ds.length = n := fun ds S Q E ⟨a, e, _, _⟩ => by rw [e]; exact h a
/-- the numbers below n at which f holds -/
def filI (f : Int → Bool) (n : Nat) : List Int := ((List.range n).map fun (i : Nat) => (i : Int)).filter f
def dInts (l : List Int) : List Dt := l.map Dt.int
theorem filI_mem {f : Int → Bool} {n : Nat} {k : Int} : k ∈ filI f n ↔ 0 ≤ k ∧ k < n ∧ f k = true := by
  unfold filI
  rw [List.mem_filter, List.mem_map]
  constructor
  · rintro ⟨⟨i, hi, rfl⟩, h⟩
    have := List.mem_range.mp hi
    exact ⟨by omega, by omega, h⟩
  · rintro ⟨h0, h1, h2⟩
    exact ⟨⟨k.toNat, List.mem_range.mpr (by omega), by omega⟩, h2⟩
theorem filI_len {f : Int → Bool} {n : Nat} : (filI f n).length ≤ n := by
  unfold filI
  refine Nat.le_trans (List.length_filter_le _ _) ?_
  simp
theorem filI_nil {f : Int → Bool} {n : Nat} : filI f n = [] ↔ ∀ k : Int, 0 ≤ k → k < n → f k = false := by
  rw [List.eq_nil_iff_forall_not_mem]
  constructor
  · intro h k h0 h1
    cases e : f k with
    | false => rfl
    | true => exact absurd (filI_mem.mpr ⟨h0, h1, e⟩) (h k)
  · intro h k hk
    obtain ⟨h0, h1, h2⟩ := filI_mem.mp hk
    rw [h k h0 h1] at h2
    cases h2
theorem filI_congr {f g : Int → Bool} {n : Nat} (h : ∀ k : Int, 0 ≤ k → k < n → f k = g k) : filI f n = filI g n := by
  unfold filI
  refine List.filter_congr fun k hk => ?_
  obtain ⟨i, hi, rfl⟩ := List.mem_map.mp hk
  have := List.mem_range.mp hi
  exact h _ (by omega) (by omega)
theorem filI_succ {f : Int → Bool} {n : Nat} : filI f (n + 1) = filI f n ++ if f (n : Int) = true then [(n : Int)] else [] := by
  unfold filI
  rw [List.range_succ, List.map_append, List.filter_append, List.map_singleton, List.filter_cons, List.filter_nil]
/-- the first of them -/
theorem filI_head {f : Int → Bool} : ∀ {n : Nat} {k : Int} {l : List Int}, filI f n = k :: l → 0 ≤ k ∧ k < n ∧ f k = true ∧ ∀ j : Int, 0 ≤ j → j < k → f j = false
  | 0, k, l, h => by cases h
  | n + 1, k, l, h => by
    rw [filI_succ] at h
    cases e : filI f n with
    | nil =>
      rw [e, List.nil_append] at h
      by_cases hf : f (n : Int) = true
      · rw [if_pos hf] at h
        obtain ⟨rfl, _⟩ := List.cons.inj h
        exact ⟨by omega, by omega, hf, fun j h0 h1 => filI_nil.mp e j h0 h1⟩
      · rw [if_neg hf] at h
        cases h
    | cons a r =>
      rw [e, List.cons_append] at h
      obtain ⟨rfl, _⟩ := List.cons.inj h
      obtain ⟨h0, h1, h2, h3⟩ := filI_head e
      exact ⟨h0, by omega, h2, h3⟩
/-- a comprehension over range(n) with a test -/
theorem comp_filI {G : TG2} {Tt : TT2} {Te : TE2} {ds : Ds} {S : Cells} {Q : QE} {n : Nat} (f : Int → Bool) (g : Int → Dt) (hl : n < 100000)
    (h : ∀ k : Nat, k < n → ∀ (S : Cells) (R1 : QE) (R2 : Cells → Prop), (f (k : Int) = true → R1 (g (k : Int)) S) → (f (k : Int) = false → R2 S) → G (.int (0 + (k : Int))) ds S fun ds2 S2 => Tt x0 ds2 S2 fun b S3 => if b = true then Te x0 ds2 S3 R1 else R2 S3)
    (q : newL ((filI f n).map g) S Q) : ∀ p, S p = none → dComp G Tt Te p ds Q (rng 0 n) [] (S.put p (.lst [])) := by
  refine comp_fil (fun d => match d with | .int i => f i | _ => false) (fun d => match d with | .int i => g i | d => d) (by rw [rng_len]; exact hl) (fun d hd S R1 R2 y n => ?_) ?_
  · unfold rng at hd
    obtain ⟨i, hi, rfl⟩ := List.mem_map.mp hd
    refine h i (List.mem_range.mp hi) S R1 R2 (fun k => ?_) (fun k => ?_)
    · have e : (0 : Int) + (i : Int) = (i : Int) := Int.zero_add _
      have y' := y
      dsimp only at y'
      rw [e] at y'
      exact y' k
    · have e : (0 : Int) + (i : Int) = (i : Int) := Int.zero_add _
      have n' := n
      dsimp only at n'
      rw [e] at n'
      exact n' k
  · have e : List.map (fun d => match d with | .int i => g i | d => d) (List.filter (fun d => match d with | .int i => f i | _ => false) (rng 0 n)) = (filI f n).map g := by
      unfold rng filI
      rw [List.filter_map, List.filter_map, List.map_map, List.map_map]
      have e2 : ((fun d : Dt => match d with | .int i => f i | _ => false) ∘ fun (i : Nat) => Dt.int (0 + (i : Int))) = (f ∘ fun (i : Nat) => (i : Int)) := by
        funext i
        show f (0 + (i : Int)) = f (i : Int)
        rw [Int.zero_add]
      rw [e2]
      refine List.map_congr_left fun i _ => ?_
      show g (0 + (i : Int)) = g (i : Int)
      rw [Int.zero_add]
    rw [e]
    exact q
/-- a comprehension over range(n) without a test -/
theorem comp_mapI {G : TG2} {Te : TE2} {ds : Ds} {S : Cells} {Q : QE} {n : Nat} (g : Int → Dt) (hl : n < 100000)
    (h : ∀ k : Nat, k < n → ∀ (S : Cells) (R : QE), R (g (k : Int)) S → G (.int (0 + (k : Int))) ds S fun ds2 S2 => Te x0 ds2 S2 R)
    (q : newL ((List.range n).map fun (i : Nat) => g (i : Int)) S Q) : ∀ p, S p = none → dComp G dYes Te p ds Q (rng 0 n) [] (S.put p (.lst [])) := by
  refine comp_new (fun d => match d with | .int i => g i | d => d) (by rw [rng_len]; exact hl) (fun d hd S R r => ?_) ?_
  · unfold rng at hd
    obtain ⟨i, hi, rfl⟩ := List.mem_map.mp hd
    refine h i (List.mem_range.mp hi) S R ?_
    have e : (0 : Int) + (i : Int) = (i : Int) := Int.zero_add _
    dsimp only at r
    rw [e] at r
    exact r
  · have e : (rng 0 n).map (fun d => match d with | .int i => g i | d => d) = (List.range n).map fun (i : Nat) => g (i : Int) := by
      unfold rng
      rw [List.map_map]
      refine List.map_congr_left fun i _ => ?_
      show g (0 + (i : Int)) = g (i : Int)
      rw [Int.zero_add]
    rw [e]
    exact q
/-- the values of g below n -/
def valI (g : Int → Int) (n : Nat) : List Int := (List.range n).map fun (i : Nat) => g (i : Int)
theorem valI_int {g : Int → Int} {n : Nat} : ((List.range n).map fun (i : Nat) => Dt.int (g (i : Int))) = (valI g n).map Dt.int := by
  unfold valI
  rw [List.map_map]
  rfl
theorem valI_len {g : Int → Int} {n : Nat} : (valI g n).length = n := by
  unfold valI
  simp
theorem valI_at {g : Int → Int} {n : Nat} {k : Int} (h0 : 0 ≤ k) (h1 : k < n) : atI ((valI g n).map Dt.int) k = some (.int (g k)) := by
  obtain ⟨a, h, _, e⟩ := at_get (l := (valI g n).map Dt.int) (i := k) h0 (by rw [List.length_map, valI_len]; exact h1)
  rw [h, ← e]
  unfold valI
  rw [List.getElem?_map, List.getElem?_map, List.getElem?_range (by omega)]
  show some (Dt.int (g ((k.toNat : Nat) : Int))) = _
  rw [Int.toNat_of_nonneg h0]
theorem ints_ok (l : List Int) : Ok0 1 (.lst (l.map Dt.int)) := .lst fun d h => by
  obtain ⟨i, _, rfl⟩ := List.mem_map.mp h
  exact .int _ _
theorem map_int_eq : ∀ {l m : List Int}, l.map Dt.int = m.map Dt.int ↔ l = m
  | [], [] => by simp
  | [], _ :: _ => by simp
  | _ :: _, [] => by simp
  | a :: l, b :: m => by simp [map_int_eq]
/-- lists of numbers, the same or not -/
theorem deq_ints {S : Cells} {l m : List Int} : DEq S (.lst (l.map Dt.int)) (.lst (m.map Dt.int)) (decide (l = m)) := DEq.mk (ints_ok l) (ints_ok m) (by
  show l = m ↔ Dt.lst (l.map Dt.int) = Dt.lst (m.map Dt.int)
  rw [Dt.lst.injEq, map_int_eq])
end Sc

namespace Sm
/-- n is the least number from 0 on at which p holds -/
def IsLeast (p : Int → Prop) : Option Int → Prop
  | some n => 0 ≤ n ∧ p n ∧ ∀ k, 0 ≤ k → k < n → ¬ p k
  | none => ∀ k, 0 ≤ k → ¬ p k
theorem IsLeast.uniq {p : Int → Prop} {a b : Option Int} (ha : IsLeast p a) (hb : IsLeast p b) : a = b := by
  cases a with
  | none =>
    cases b with
    | none => rfl
    | some n => exact absurd hb.2.1 (ha n hb.1)
  | some m =>
    cases b with
    | none => exact absurd ha.2.1 (hb m ha.1)
    | some n =>
      have h1 : ¬ m < n := fun h => hb.2.2 m ha.1 h ha.2.1
      have h2 : ¬ n < m := fun h => ha.2.2 n hb.1 h hb.2.1
      have : m = n := by omega
      rw [this]
theorem fstL_ge {T w r : Int} (hw : 0 < w) : T ≤ fstL T w r ∧ fstL T w r < T + w := by
  unfold fstL
  have := Int.emod_nonneg (r - T) (b := w) (by omega)
  have := Int.emod_lt_of_pos (r - T) hw
  omega
theorem class_of {T w n : Int} (hw : 0 < w) (h : T ≤ n) : 0 ≤ n % w ∧ n % w < w ∧ ∃ k, 0 ≤ k ∧ n = fstL T w (n % w) + k * w := by
  refine ⟨Int.emod_nonneg _ (by omega), Int.emod_lt_of_pos _ hw, (n - T) / w, Int.ediv_nonneg (by omega) (by omega), ?_⟩
  unfold fstL
  have e : (n % w - T) % w = (n - T) % w := by
    rw [Int.sub_emod, Int.emod_emod_of_dvd _ (Int.dvd_refl w), ← Int.sub_emod]
  rw [e]
  have := Int.emod_add_mul_ediv (n - T) w
  rw [Int.mul_comm ((n - T) / w) w]
  omega
/-- the least length of a class with at least m places -/
def candF (c : List Sl) (m r : Int) : Option Int :=
  if m ≤ (rowF c r).2.2.2 then some (fstL (thr c) (per c) r)
  else if 0 < (rowF c r).2.2.1 then some (fstL (thr c) (per c) r + (m - (rowF c r).2.2.2) * per c) else none
theorem cand_some {c : List Sl} (hc : okC c) {m r x : Int} (h : candF c m r = some x) : thr c ≤ x ∧ m ≤ (shown c x).2.2 ∧ ∀ k : Int, 0 ≤ k → fstL (thr c) (per c) r + k * per c < x → (shown c (fstL (thr c) (per c) r + k * per c)).2.2 < m := by
  have hw := per_pos hc
  have g := fstL_ge (T := thr c) (r := r) hw
  have z0 := (row_fits hc (r := r) (k := 0) (Int.le_refl _)).1.1
  have hg := (row_fits hc (r := r) (k := 0) (Int.le_refl _)).2.1
  rw [Int.mul_zero, Int.zero_mul, Int.add_zero, Int.add_zero] at z0
  unfold candF at h
  by_cases h1 : m ≤ (rowF c r).2.2.2
  · rw [if_pos h1] at h
    cases h
    refine ⟨g.1, by omega, fun k hk hlt => ?_⟩
    have := Int.mul_nonneg hk (Int.le_of_lt hw)
    omega
  · rw [if_neg h1] at h
    by_cases h2 : 0 < (rowF c r).2.2.1
    · rw [if_pos h2] at h
      cases h
      have g1 : (rowF c r).2.2.1 = 1 := by omega
      have hk0 : 0 ≤ m - (rowF c r).2.2.2 := by omega
      have zm := (row_fits hc (r := r) (k := m - (rowF c r).2.2.2) hk0).1.1
      have nn := Int.mul_nonneg hk0 (Int.le_of_lt hw)
      rw [g1, Int.one_mul] at zm
      refine ⟨by omega, by omega, fun k hk hlt => ?_⟩
      have zk := (row_fits hc (r := r) (k := k) hk).1.1
      rw [g1, Int.one_mul] at zk
      have : k < m - (rowF c r).2.2.2 := Int.lt_of_mul_lt_mul_right (a := per c) (by omega) (by omega)
      omega
    · rw [if_neg h2] at h
      cases h
theorem cand_none {c : List Sl} (hc : okC c) {m r : Int} (h : candF c m r = none) : (rowF c r).2.2.1 = 0 ∧ ∀ k : Int, 0 ≤ k → (shown c (fstL (thr c) (per c) r + k * per c)).2.2 < m := by
  unfold candF at h
  have hg := (row_fits hc (r := r) (k := 0) (Int.le_refl _)).2.1
  by_cases h1 : m ≤ (rowF c r).2.2.2
  · rw [if_pos h1] at h
    cases h
  · rw [if_neg h1] at h
    by_cases h2 : 0 < (rowF c r).2.2.1
    · rw [if_pos h2] at h
      cases h
    · have g0 : (rowF c r).2.2.1 = 0 := by omega
      refine ⟨g0, fun k hk => ?_⟩
      have zk := (row_fits hc (r := r) (k := k) hk).1.1
      rw [g0, Int.zero_mul] at zk
      omega
theorem cand_le {c : List Sl} (hc : okC c) {m r x : Int} (hm : 0 ≤ m ∧ m ≤ 1000000000000) (h : candF c m r = some x) : 0 ≤ x ∧ x ≤ 100000000000000 := by
  have hw := per_pos hc
  have hw2 := per_le hc
  have t0 := thr_nn hc
  have t1 := thr_le hc
  have g := fstL_ge (T := thr c) (r := r) hw
  have cs := cand_some hc h
  have z0 := (row_fits hc (r := r) (k := 0) (Int.le_refl _)).1.1
  rw [Int.mul_zero, Int.zero_mul, Int.add_zero, Int.add_zero] at z0
  have nn : 0 ≤ (shown c (fstL (thr c) (per c) r)).2.2 := (shownF_count c (0, 1, fstL (thr c) (per c) r) hc.2 (by show 0 ≤ fstL (thr c) (per c) r; omega)).1
  refine ⟨by omega, ?_⟩
  unfold candF at h
  split at h
  · cases h
    omega
  · split at h
    · cases h
      have : (m - (rowF c r).2.2.2) * per c ≤ 1000000000000 * 81 := Int.mul_le_mul (by omega) hw2 (by omega) (by decide)
      omega
    · cases h
/-- those of the first i classes -/
def foundF (c : List Sl) (m : Int) (i : Nat) : List Int := (List.range i).filterMap fun (r : Nat) => candF c m (r : Int)
theorem foundF_succ (c : List Sl) (m : Int) (i : Nat) : foundF c m (i + 1) = foundF c m i ++ (candF c m (i : Int)).toList := by
  unfold foundF
  rw [List.range_succ, List.filterMap_append]
  congr 1
theorem foundF_len (c : List Sl) (m : Int) (i : Nat) : (foundF c m i).length ≤ i := by
  unfold foundF
  refine Nat.le_trans (List.length_filterMap_le _ _) ?_
  simp
theorem foundF_mem {c : List Sl} {m : Int} {i : Nat} {x : Int} : x ∈ foundF c m i ↔ ∃ r : Nat, r < i ∧ candF c m (r : Int) = some x := by
  unfold foundF
  rw [List.mem_filterMap]
  constructor
  · rintro ⟨r, h, e⟩
    exact ⟨r, List.mem_range.mp h, e⟩
  · rintro ⟨r, h, e⟩
    exact ⟨r, List.mem_range.mpr h, e⟩
theorem class_found {c : List Sl} (hc : okC c) {m k : Int} (h : thr c ≤ k) (hm : m ≤ (shown c k).2.2) : ∃ x, x ∈ foundF c m (per c).toNat ∧ x ≤ k := by
  have hw := per_pos hc
  obtain ⟨r0, r1, j, hj, e⟩ := class_of hw h
  have er : (((k % per c).toNat : Nat) : Int) = k % per c := by omega
  cases q : candF c m (k % per c) with
  | none =>
    have z := (cand_none hc q).2 j hj
    rw [← e] at z
    omega
  | some x =>
    refine ⟨x, foundF_mem.mpr ⟨(k % per c).toNat, by omega, by rw [er]; exact q⟩, ?_⟩
    have z := (cand_some hc q).2.2 j hj
    rw [← e] at z
    omega
theorem least_low {c : List Sl} {m n : Int} (h0 : 0 ≤ n) (h : m ≤ (shown c n).2.2) (hl : ∀ k, 0 ≤ k → k < n → (shown c k).2.2 < m) : IsLeast (fun n => m ≤ (shown c n).2.2) (some n) :=
  ⟨h0, h, fun k k0 k1 z => by have := hl k k0 k1; omega⟩
theorem least_none {c : List Sl} (hc : okC c) {m : Int} (hl : ∀ k, 0 ≤ k → k < thr c → (shown c k).2.2 < m) (h : foundF c m (per c).toNat = []) : IsLeast (fun n => m ≤ (shown c n).2.2) none := fun k k0 z => by
  have z : m ≤ (shown c k).2.2 := z
  by_cases hk : k < thr c
  · have := hl k k0 hk
    omega
  · obtain ⟨x, hx, _⟩ := class_found hc (by omega) z
    rw [h] at hx
    cases hx
theorem least_min {c : List Sl} (hc : okC c) {m x : Int} (hl : ∀ k, 0 ≤ k → k < thr c → (shown c k).2.2 < m) (h : x ∈ foundF c m (per c).toNat) (hx : ∀ y, y ∈ foundF c m (per c).toNat → x ≤ y) : IsLeast (fun n => m ≤ (shown c n).2.2) (some x) := by
  obtain ⟨r, _, e⟩ := foundF_mem.mp h
  have cs := cand_some hc e
  have := thr_nn hc
  refine ⟨by omega, cs.2.1, fun k k0 k1 z => ?_⟩
  have z : m ≤ (shown c k).2.2 := z
  by_cases hk : k < thr c
  · have := hl k k0 hk
    omega
  · obtain ⟨y, hy, hyk⟩ := class_found hc (by omega) z
    have := hx y hy
    omega
/-- never so many: in each class the count stays as it is -/
theorem never_grows {c : List Sl} (hc : okC c) {m : Int} (h : IsLeast (fun n => m ≤ (shown c n).2.2) none) {n : Int} (hn : thr c ≤ n) : (shown c (n + per c)).2.2 = (shown c n).2.2 := by
  obtain ⟨f, s, q, mm, g, hq, hg, _, _, z⟩ := lin2_shown hc n hn
  have z0 := z 0 (Int.le_refl _)
  have z1 := z 1 (by decide)
  rw [Int.zero_mul, Int.add_zero] at z0
  rw [Int.one_mul] at z1
  rw [z0, z1]
  rcases hg with rfl | rfl
  · show q + 1 * 0 = q + 0 * 0
    omega
  · have h1 := h n (by have := thr_nn hc; omega)
    have h1 : ¬ m ≤ (shown c n).2.2 := h1
    by_cases hm : 0 ≤ m
    · have zm := z m hm
      have hw := per_pos hc
      have := h (n + m * per c) (by have := thr_nn hc; have := Int.mul_nonneg hm (Int.le_of_lt hw); omega)
      have this : ¬ m ≤ (shown c (n + m * per c)).2.2 := this
      rw [zm] at this
      have this : ¬ m ≤ q + m * 1 := this
      omega
    · have : 0 ≤ (shown c n).2.2 := (shownF_count c (0, 1, n) hc.2 (by have := thr_nn hc; show 0 ≤ n; omega)).1
      omega
end Sm

namespace Sc
open PySem PySem.Spec PyProof.Rows L2 Sm
local macro_rules | `(tactic| walk_at "wp") => `(tactic| simp only [dRet, dSeq, dIfS, dNext, dDrop, dSet, dAsg, dPar, dPar3, dAug, dVar, dC, dOp, dUn, dTest, dTru, dNot, dAnd, dOr, dAndV, dOrV, dNotV, dIf, dChain, dCall, dCons, dNil, dCB, dTup, dLst, dIsi, dStore, kSub, dYes, dFor, dIt, dItL, dRng1, dRng2, dSl, dNoP, dPart, dMt, dRaise,
  qI, qI0, qAdd, qSub, qMul, qFdiv, qFdivN, qMod, qPow, qLt, qLe, qGt, qGe, qEq, qNe, qIsN, qNotN, qIsB, qNotB, qNeg, qAbs, qMax2, qMin2, qLen, qIx, qTupOf, qLstOf, qSlT, qSlL, qCatT, qRepT, kName, kTup, kCons, kNil, start2, List.map_cons, List.map_nil, List.length_cons, List.length_nil, List.replicate, List.cons_append, List.nil_append, List.append_nil,
  List.getElem?_cons_zero, List.getElem?_cons_succ, List.set_cons_zero, List.set_cons_succ, Option.some.injEq, exists_eq_left', exists_eq_left, Dt.int.injEq, Dt.bl.injEq, Dt.ref.injEq, Dt.tup.injEq, Dt.lst.injEq, Nat.sub_zero, Nat.zero_add, Nat.reduceAdd, Nat.reduceSub, asQ_tup, asQ_lst, asL_lst, asT_tup, asQ_put, asL_put, exists_and_left, List.cons.injEq, and_true, isN_int, isN_non, truD_int, truD_non, at_0, at_1, at_2, ix20, ix21, Cells.put_same, Cells.put_put, Cell.lst.injEq, sEq_ii, sEq_bb, sEq_ss, sEq_nn, sEq_ni, sEq_in, true_and, decide_eq_true_eq, and_assoc])

/-! ### rows -/
def dAn (a : Int) : Dt := if a = 0 then .non else if a = 1 then .str "start" else .str "end"
def dRow (r : Int × Int × Int × Int) : Dt := .tup [dAn r.1, if r.1 = 0 then .non else .int r.2.1, .int r.2.2.1, .int r.2.2.2]
def sp_first_length : Sp2 := psp (α := Int × Int × Int) (fun a => [.int a.1, .int a.2.1, .int a.2.2]) (fun a => 0 < a.2.1) (fun a => .int (fstL a.1 a.2.1 a.2.2))
def sp_row_of : Sp2 := psp (α := List Sl × Int) (fun a => [dCh a.1, .int a.2]) (fun a => okC a.1) (fun a => dRow (rowF a.1 a.2))
theorem dCl_clean {c : List Sl} {n : Int} : dCl (clean c n) = .tup [dO (clean c n).1, dO (clean c n).2.1, .int (shown c n).2.2] := rfl
theorem fstL_in {c : List Sl} (hc : okC c) (r : Int) : 0 ≤ fstL (thr c) (per c) r ∧ fstL (thr c) (per c) r ≤ 30000 := by
  have h1 := thr_nn hc
  have h2 := thr_le hc
  have h3 := per_pos hc
  have h4 := per_le hc
  unfold fstL
  have := Int.emod_nonneg (r - thr c) (b := per c) (by omega)
  have := Int.emod_lt_of_pos (r - thr c) h3
  omega
def T_first_length : TS2 :=
  (dRet (dOp qAdd (dVar 0) (dOp qMod (dOp qSub (dVar 2) (dVar 0)) (dVar 1))))
theorem pure_first_length : Pure 3 sp_first_length T_first_length := by
  rintro ds S Q E frg ⟨⟨a, b, r⟩, rfl, h, q⟩
  unfold T_first_length
  walk_at "wp"
  exact ⟨h, q⟩
def T_row_of : TS2 :=
  (dSeq (dSet 2 (dCall sp_period_of (dCons (dVar 0) dNil)))
  (dSeq (dSet 3 (dCall sp_first_length (dCons (dCall sp_threshold_of (dCons (dVar 0) dNil)) (dCons (dVar 2) (dCons (dVar 1) dNil)))))
  (dSeq (dSet 4 (dOp qIx (dCall sp_clean (dCons (dVar 0) (dCons (dVar 3) dNil))) (dC (.int 2))))
  (dSeq (dPar 5 6 (dCons (dCall sp_clean (dCons (dVar 0) (dCons (dOp qAdd (dVar 3) (dVar 2)) dNil))) (dCons (dCall sp_clean (dCons (dVar 0) (dCons (dOp qAdd (dVar 3) (dOp qMul (dC (.int 2)) (dVar 2))) dNil))) dNil)))
  (dSeq (dSet 7 (dOp qSub (dOp qIx (dVar 5) (dC (.int 2))) (dVar 4)))
  (dSeq (dIfS (dTest (dOp qIsN (dOp qIx (dVar 5) (dC (.int 0))) (dC .non))) (dRet (dTup (dCons (dC .non) (dCons (dC .non) (dCons (dVar 7) (dCons (dVar 4) dNil)))))) dNext)
  (dSeq (dIfS (dTest (dOp qEq (dOp qIx (dVar 5) (dC (.int 0))) (dOp qIx (dVar 6) (dC (.int 0))))) (dRet (dTup (dCons (dC (.str "start")) (dCons (dOp qIx (dVar 5) (dC (.int 0))) (dCons (dVar 7) (dCons (dVar 4) dNil)))))) dNext)
  (dRet (dTup (dCons (dC (.str "end")) (dCons (dOp qSub (dOp qAdd (dVar 3) (dVar 2)) (dOp qIx (dVar 5) (dC (.int 0)))) (dCons (dVar 7) (dCons (dVar 4) dNil)))))))))))))
theorem pure_row_of : Pure 8 sp_row_of T_row_of := by
  rintro ds S Q E frg ⟨⟨c, r⟩, rfl, hc, q⟩
  have hc : okC c := hc
  have hn := fstL_in hc r
  have hw := per_pos hc
  have hw2 := per_le hc
  unfold T_row_of
  walk_at "wp"
  refine ⟨c, rfl, hc, c, rfl, hc, (thr c, per c, r), rfl, hw, (c, fstL (thr c) (per c) r), rfl, ⟨hc.2, hn.1, by show fstL (thr c) (per c) r ≤ 10 ^ 18; omega⟩, ?_⟩
  dsimp only
  simp only [dCl_clean]
  walk_at "wp"
  refine ⟨(c, fstL (thr c) (per c) r + per c), rfl, ⟨hc.2, by show 0 ≤ fstL (thr c) (per c) r + per c; omega, by show fstL (thr c) (per c) r + per c ≤ 10 ^ 18; omega⟩, .inl (by omega), (c, fstL (thr c) (per c) r + 2 * per c), rfl, ⟨hc.2, by show 0 ≤ fstL (thr c) (per c) r + 2 * per c; omega, by show fstL (thr c) (per c) r + 2 * per c ≤ 10 ^ 18; omega⟩, ?_⟩
  dsimp only
  simp only [dCl_clean]
  walk_at "wp"
  have cl : ∀ x, (clean c x).1 = if (shown c x).2.2 > 0 then some (shown c x).1 else none := fun x => rfl
  simp only [cl]
  have q : Q (dRow (rowF c r)) S := q
  unfold rowF at q
  simp only at q
  by_cases h1 : (shown c (fstL (thr c) (per c) r + per c)).2.2 > 0
  · simp only [if_pos h1] at q ⊢
    refine iteN (show ¬ false = true by decide) ?_
    by_cases h2 : (shown c (fstL (thr c) (per c) r + 2 * per c)).2.2 > 0
    · simp only [if_pos h2, h2, true_and] at q ⊢
      by_cases h3 : (shown c (fstL (thr c) (per c) r + per c)).1 = (shown c (fstL (thr c) (per c) r + 2 * per c)).1
      · simp only [if_pos h3] at q
        exact ⟨_, rfl, iteP (by simpa using h3) ⟨by decide, q⟩⟩
      · simp only [if_neg h3] at q
        exact ⟨_, rfl, iteN (by simpa using h3) ⟨_, rfl, by decide, q⟩⟩
    · simp only [if_neg h2, h2, false_and, if_false] at q ⊢
      exact ⟨false, rfl, iteN (by decide) ⟨_, rfl, by decide, q⟩⟩
  · simp only [if_neg h1] at q ⊢
    exact iteP rfl ⟨by decide, q⟩
/-! ### lengths -/
def sp_lengths_keeping : Sp2 := lsp (α := List Sl × Int × Int) (fun a => [dCh a.1, .int a.2.1, .int a.2.2]) (fun a => okC a.1 ∧ (0 ≤ a.2.1 ∧ a.2.1 ≤ 1000000000000) ∧ 0 ≤ a.2.2 ∧ a.2.2 ≤ 1000) (fun a => (filI (fun n => decide ((shown a.1 n).2.2 = a.2.1)) (a.2.2 + 1).toNat).map Dt.int)
def sp_least_length : Sp2 := rsp (α := List Sl × Int) (β := Option Int) (fun a => [dCh a.1, .int a.2]) (fun a => okC a.1 ∧ 0 ≤ a.2 ∧ a.2 ≤ 1000000000000) (fun a o => IsLeast (fun n => a.2 ≤ (shown a.1 n).2.2) o ∧ ∀ n, o = some n → n ≤ 100000000000000) dO
def T_lengths_keeping : TS2 :=
  (dSeq (dDrop (dCall sp_require_chain (dCons (dVar 0) dNil)))
  (dSeq (dDrop (dCall sp_require_number (dCons (dVar 1) (dCons (dC (.int 1000000000000)) dNil))))
  (dSeq (dDrop (dCall sp_require_length (dCons (dVar 2) (dCons (dC (.int 1000)) dNil))))
  (dRet (dLc (dRng1 (dOp qAdd (dVar 2) (dC (.int 1)))) (kName 3) (dTest (dOp qEq (dOp qIx (dCall sp_clean (dCons (dVar 0) (dCons (dVar 3) dNil))) (dC (.int 2))) (dVar 1))) (dVar 3))))))
theorem pure_lengths_keeping : Pure 4 sp_lengths_keeping T_lengths_keeping := by
  rintro ds S Q E frg ⟨⟨c, m, k⟩, rfl, ⟨hc, ⟨h0, h1⟩, h2, h3⟩, q⟩
  have hc : okC c := hc
  have h0 : 0 ≤ m := h0
  have h1 : m ≤ 1000000000000 := h1
  have h2 : 0 ≤ k := h2
  have h3 : k ≤ 1000 := h3
  unfold T_lengths_keeping
  walk_at "wp"
  refine ⟨_, rfl, chain_req hc, (.int m, 1000000000000), rfl, len_req h0 h1, (.int k, 1000), rfl, len_req h2 h3, ?_⟩
  unfold dLc
  walk_at "wp"
  refine ⟨by omega, by omega, ?_⟩
  refine comp_filI (fun n => decide ((shown c n).2.2 = m)) Dt.int (by omega) (fun i hi S R1 R2 y n => ?_) q
  walk_at "wp"
  refine ⟨(c, 0 + (i : Int)), rfl, ⟨hc.2, by show 0 ≤ 0 + (i : Int); omega, by show 0 + (i : Int) ≤ 10 ^ 18; omega⟩, ?_⟩
  simp only [dCl_clean]
  walk_at "wp"
  rw [Int.zero_add]
  exact ite2 (fun h => y (by simpa using h)) (fun h => n (by simpa using h))
def T_least_length : TS2 :=
  (dSeq (dDrop (dCall sp_require_chain (dCons (dVar 0) dNil)))
  (dSeq (dDrop (dCall sp_require_number (dCons (dVar 1) (dCons (dC (.int 1000000000000)) dNil))))
  (dSeq (dPar 2 3 (dCons (dCall sp_threshold_of (dCons (dVar 0) dNil)) (dCons (dCall sp_period_of (dCons (dVar 0) dNil)) dNil)))
  (dSeq (dFor (dRng1 (dVar 2)) (kName 4) (dIfS (dTest (dOp qGe (dOp qIx (dCall sp_clean (dCons (dVar 0) (dCons (dVar 4) dNil))) (dC (.int 2))) (dVar 1))) (dRet (dVar 4)) dNext))
  (dSeq (dSet 5 (dLst dNil))
  (dSeq (dFor (dRng1 (dVar 3)) (kName 6) (dSeq (dAsg (dCall sp_row_of (dCons (dVar 0) (dCons (dVar 6) dNil))) (kTup 4 (kCons (kName 7) (kCons (kName 8) (kCons (kName 9) (kCons (kName 10) kNil))))))
  (dIfS (dTest (dOp qGe (dVar 10) (dVar 1))) (dDrop (dMt qAppend (dVar 5) (dCons (dCall sp_first_length (dCons (dVar 2) (dCons (dVar 3) (dCons (dVar 6) dNil)))) dNil))) (dIfS (dTest (dOp qGt (dVar 9) (dC (.int 0)))) (dDrop (dMt qAppend (dVar 5) (dCons (dOp qAdd (dCall sp_first_length (dCons (dVar 2) (dCons (dVar 3) (dCons (dVar 6) dNil)))) (dOp qMul (dOp qSub (dVar 1) (dVar 10)) (dVar 3))) dNil))) dNext))))
  (dRet (dIf (dTru (dVar 5)) (dCB qMinL (dCons (dVar 5) dNil)) (dC .non)))))))))
theorem pure_least_length : Pure 11 sp_least_length T_least_length := by
  rintro ds S Q E frg ⟨⟨c, m⟩, rfl, ⟨hc, h0, h1⟩, q⟩
  have hc : okC c := hc
  have h0 : 0 ≤ m := h0
  have h1 : m ≤ 1000000000000 := h1
  have q : ∀ o : Option Int, IsLeast (fun n => m ≤ (shown c n).2.2) o ∧ (∀ n, o = some n → n ≤ 100000000000000) → Q (dO o) S := q
  have t0 := thr_nn hc
  have t1 := thr_le hc
  have w0 := per_pos hc
  have w1 := per_le hc
  unfold T_least_length
  walk_at "wp"
  refine ⟨_, rfl, chain_req hc, (.int m, 1000000000000), rfl, len_req h0 h1, c, rfl, hc, c, rfl, hc, ?_⟩
  walk_at "wp"
  refine ⟨by omega, by omega, ?_⟩
  refine loop_rng (fun i ds S' => S' = S ∧ (∀ k : Int, 0 ≤ k → k < i → (shown c k).2.2 < m) ∧ ∃ x4 x5 x6 x7 x8 x9 x10, ds = [some (dCh c), some (.int m), some (.int (thr c)), some (.int (per c)), x4, x5, x6, x7, x8, x9, x10]) ⟨rfl, fun k a b => by omega, _, _, _, _, _, _, _, rfl⟩ ?_ ?_
  · rintro i ds S' N hi ⟨rfl, hl, _, _, _, _, _, _, _, rfl⟩ hN
    walk_at "wp"
    refine ⟨(c, 0 + (i : Int)), rfl, ⟨hc.2, by show 0 ≤ 0 + (i : Int); omega, by show 0 + (i : Int) ≤ 10 ^ 18; omega⟩, ?_⟩
    dsimp only
    simp only [dCl_clean]
    walk_at "wp"
    rw [Int.zero_add]
    refine ite2 (fun h => ?_) (fun h => ?_)
    · exact q (some (i : Int)) ⟨least_low (by omega) h hl, fun n e => by cases e; omega⟩
    · refine hN _ _ ⟨rfl, fun k a b => ?_, _, _, _, _, _, _, _, rfl⟩
      by_cases e : k = (i : Int)
      · rw [e]; omega
      · exact hl k a (by omega)
  · rintro ds S' ⟨rfl, hl, _, _, _, _, _, _, _, rfl⟩
    have hl : ∀ k : Int, 0 ≤ k → k < thr c → (shown c k).2.2 < m := fun k a b => hl k a (by omega)
    walk_at "wp"
    refine ⟨by decide, .inr fun p hp => ⟨by omega, by omega, ?_⟩⟩
    refine loop_rng (fun i ds S2 => S2 = S'.put p (.lst ((foundF c m i).map Dt.int)) ∧ ∃ x4 x6 x7 x8 x9 x10, ds = [some (dCh c), some (.int m), some (.int (thr c)), some (.int (per c)), x4, some (.ref p), x6, x7, x8, x9, x10]) ⟨rfl, _, _, _, _, _, _, rfl⟩ ?_ ?_
    · rintro i ds S2 N hi ⟨rfl, _, _, _, _, _, _, rfl⟩ hN
      have hlen := foundF_len c m i
      walk_at "wp"
      rw [Int.zero_add]
      refine ⟨(c, (i : Int)), rfl, hc, ?_⟩
      unfold dRow
      walk_at "wp"
      have e1 : foundF c m (i + 1) = foundF c m i ++ (candF c m (i : Int)).toList := foundF_succ c m i
      unfold candF at e1
      refine ite2 (fun h => ?_) (fun h => ?_)
      · rw [if_pos h] at e1
        refine ⟨⟨_, asL_put⟩, (thr c, per c, (i : Int)), rfl, w0, p, _, _, rfl, rfl, Cells.put_same, by rw [List.length_map]; omega, ?_⟩
        rw [Cells.put_put]
        refine hN _ _ ⟨?_, _, _, _, _, _, _, rfl⟩
        rw [e1, List.map_append]
        rfl
      · rw [if_neg h] at e1
        refine ite2 (fun h2 => ?_) (fun h2 => ?_)
        · rw [if_pos h2] at e1
          refine ⟨⟨_, asL_put⟩, (thr c, per c, (i : Int)), rfl, w0, .inr (by omega), _, rfl, p, _, _, rfl, rfl, Cells.put_same, by rw [List.length_map]; omega, ?_⟩
          rw [Cells.put_put]
          refine hN _ _ ⟨?_, _, _, _, _, _, _, rfl⟩
          rw [e1, List.map_append]
          rfl
        · rw [if_neg h2] at e1
          refine hN _ _ ⟨?_, _, _, _, _, _, _, rfl⟩
          rw [e1]
          simp
    · rintro ds S2 ⟨rfl, _, _, _, _, _, _, rfl⟩
      walk_at "wp"
      refine ⟨_, by show ((asQ (S'.put p _) (.ref p)).map fun ds => !ds.isEmpty) = some _; rw [asQ_put]; rfl, ?_⟩
      cases e : foundF c m (per c).toNat with
      | nil =>
        refine iteN (by simp) (frg.fg _ _ _ _ hp (q none ⟨least_none hc hl e, fun n h => by cases h⟩))
      | cons x l =>
        refine iteP (by simp) ⟨_, x :: l, rfl, asL_put, by simp, fun y h1 h2 => frg.fg _ _ _ _ hp (q (some y) ?_)⟩
        rw [← e] at h1 h2
        obtain ⟨r, _, er⟩ := foundF_mem.mp h1
        exact ⟨least_min hc hl h1 h2, fun n h => by cases h; exact (cand_le hc ⟨h0, by assumption⟩ er).2⟩
end Sc

/-! enumerate over a tuple; the reversed copy of a tuple -/
namespace Sc
open PySem PySem.Spec PyProof.Rows L2 Sm
theorem meets_enumT {v : Value} {o : Obj} {H : Heap → Prop} (B : Begins v o H) :
    Meets (Builtin.«enumerate.__new__» ⟨[.type "enumerate", v], []⟩) (fun _ R s => H s.heap ∧
      R (.ok (.ret (.ref (s.heap.push o).objs.size))) { s with heap := (s.heap.push o).push { cls := .type "enumerate", data := .fields #[.none, .bool false, .ref s.heap.objs.size, rawInt 0, .none, .none] } }) :=
  .of_wp fun prog w A R s hs => by
    obtain ⟨hp, gg, dd, tk, os⟩ := s
    obtain ⟨hH, hR⟩ := hs
    have sub := sub_enumerate
    have it1 : ∀ {A' : Around} {E Q : Value → Shared → Prop}, Q (.ref hp.objs.size) ⟨hp.push o, gg, dd, tk, os⟩ → wpAny (model prog w) A' (pyIter v) Q E ⟨hp, gg, dd, tk, os⟩ :=
      fun q => B.iter prog w _ _ ⟨hp, gg, dd, tk, os⟩ _ hH q
    wp_walk
    refine wpAny_stack_any fun st => wpAny_pure ?_
    split
    · rename_i cc _ _ _ _ _
      cases (cc == Value.type "enumerate") <;> (wp_walk using it1; exact ⟨_, rfl, hR⟩)
    · wp_walk using it1
      exact ⟨_, rfl, hR⟩
theorem call_enumT {prog : Program} {w : World} {A : Around} {E : Value → Shared → Prop} {s : Shared} {t : Addr} {items : Array Value} {Q : Value → Shared → Prop} (hL : s.heap.IsTuple t items)
    (q : ∀ h', IsEnum h' (s.heap.objs.size + 1) s.heap.objs.size 0 .none → h'.IsTupleIter s.heap.objs.size t 0 → (∀ b ob, s.heap.get? b = some ob → h'.get? b = some ob) → Q (.ref (s.heap.objs.size + 1)) { s with heap := h' }) :
    wpAny (model prog w) A (call (.type "enumerate") [.ref t]) Q E s := by
  refine callType_new F.called_enumerate (by decide) (F.typeCall_enumerate_1 _) (F.newCall_enumerate_1 _) (fun obj => F.args_object_init_2 obj _) F.entry_enumerate_new (meets_enumT (begins_tuple t items)) ⟨hL, ?_⟩
  have sz : (s.heap.push { cls := .type "tuple_iterator", data := .fields #[.ref t, .int 0 0] }).objs.size = s.heap.objs.size + 1 := Heap.size_push ..
  have en := Heap.get?_push_size (s.heap.push { cls := .type "tuple_iterator", data := .fields #[.ref t, .int 0 0] }) (o := { cls := .type "enumerate", data := .fields #[.none, .bool false, .ref s.heap.objs.size, rawInt 0, .none, .none] }) rfl
  show _ ∧ _
  rw [sz] at en ⊢
  exact ⟨⟨_, en, rfl⟩, q _ en ⟨_, Heap.get?_push_of_some _ (Heap.get?_push_size _ rfl), rfl, rfl⟩ fun b ob e => Heap.get?_push_of_some _ (Heap.get?_push_of_some _ e)⟩
/-- the tuple at a, each item in a new pair -/
def IteT (K : PySem.W.Frag) (a : Addr) : It where
  go := fun i H => ∃ (xs : List V) (x : V), SqT K H a xs ∧ xs[i]? = some x
  yld := fun i H v H' => ∃ T x, v = .ref T ∧ H T = none ∧ H' = upd H T (.tup [.int (i : Nat), x]) ∧ ∀ xs, SqT K H a xs → xs[i]? = some x
  stop := fun i H => ∃ xs : List V, SqT K H a xs ∧ xs.length ≤ i
theorem tuple_apart {h : Heap} {a it : Addr} {items : Array Value} {i : Nat} (p : h.IsTuple a items) (hit : h.IsTupleIter it a i) : a ≠ it := fun e => by
  subst e
  obtain ⟨o, h1, h2, _⟩ := p
  obtain ⟨o2, k1, k2, _⟩ := hit
  rw [h1] at k1
  cases k1
  rw [h2] at k2
  exact absurd k2 (by decide)
theorem turn_enumT {P : Program} {w : World} {K : PySem.W.Frag} {elts : List Expr} {kk : Nat} {tpos : Pos} (a e it : Addr) :
    Turn P w K (.Tuple elts kk tpos) (IteT K a) [e, it] e (fun i h => (∃ old, IsEnum h e it ((i : Nat) : Int) old) ∧ h.IsTupleIter it a i ∧ e ≠ it) where
  mem := by simp
  obj := by
    rintro i h ⟨⟨old, he⟩, ⟨o, ho, hc, hd⟩, _⟩ b hb
    have two : b = e ∨ b = it := by simpa using hb
    rcases two with rfl | rfl
    · exact ⟨_, he, fun v q => nomatch q⟩
    · exact ⟨o, ho, fun v q => by rw [hd] at q; cases q⟩
  keep := by
    rintro i h h' ⟨⟨old, he⟩, ⟨o, ho, hr⟩, hne⟩ k
    exact ⟨⟨old, k e (by simp) _ he⟩, ⟨o, k it (by simp) _ ho, hr⟩, hne⟩
  item := by
    intro X hP hw hK hc i pins s σ H E I hf st hg
    subst hP hw hK
    obtain ⟨⟨old, he⟩, hit, hne⟩ := st
    obtain ⟨xs, x, hq, hx⟩ := hg
    obtain ⟨its, rv, p, hz⟩ := I.tuple hq
    have p : s.heap.IsTuple a its.toArray := p
    have hai := tuple_apart p hit
    obtain ⟨u, hu, ru⟩ := rv.get hx
    have hlt : i < its.toArray.size := by
      rw [List.size_toArray]
      exact (List.getElem?_eq_some_iff.mp hu).1
    have hea : e ≠ a := fun q => by
      subst q
      obtain ⟨o, h1, h2, _⟩ := p
      rw [he] at h1
      cases h1
      have h3 : Value.type "enumerate" = Value.type "tuple" := h2
      exact absurd h3 (by decide)
    have hel : e < s.heap.objs.size := Heap.lt_size he
    have hil : it < s.heap.objs.size := by
      obtain ⟨_, q, _⟩ := hit
      exact Heap.lt_size q
    refine wpAny_pyNext_enum_itemD (Draws.tuple (A := X.A.in1) (I.ok.hd hc) it a hai its.toArray) he ⟨hit, p⟩ hlt hne (by simp [hne, hea]) fun y h1 tk hy ho st1 hT hsz hk => ?_
    have hy : its.toArray[i]? = some y := hy
    have : y = u := by
      rw [List.getElem?_toArray, hu] at hy
      exact (Option.some.inj hy).symm
    subst this
    refine ⟨_, rfl, wpAny_letOwnedTupleGo_enum (s := { s with heap := h1, toks := tk + 1 }) ho fun h2 he2 sb => ?_⟩
    have hT2 : h2.get? s.heap.objs.size = some { cls := .type "tuple", data := .seq #[.int i tk, y] } := (sb.2 _ (Nat.ne_of_gt hel)).trans hT
    have kk : ∀ b ob, b ∉ [e, it] → s.heap.get? b = some ob → h2.get? b = some ob := fun b ob hb q => (sb.2 b fun z => hb (by simp [z])).trans (hk b ob (fun z => hb (by simp [z])) (fun z => hb (by simp [z])) q)
    have I1 := I.turnedNew (t' := tk + 1) (T := s.heap.objs.size) (ob := .tup [.int (i : Nat), x]) kk hf (Nat.le_refl _) ⟨by show 2 ≤ sizeLine; decide, [.int i tk, y], .cons ⟨_, rfl⟩ (.cons ru .nil), ⟨_, hT2, rfl, _, rfl⟩⟩
    refine ⟨.ref s.heap.objs.size, _, I1, rfl, ⟨_, x, rfl, I.hok.fresh (Nat.le_refl _), rfl, fun ys hy => by rw [I.tuple_inj hy hq]; exact hx⟩, ⟨⟨y, ?_⟩, st1.1.at fun o q => (sb.2 it hne.symm).trans q, hne⟩, fun b hb => ?_⟩
    · rw [show ((i + 1 : Nat) : Int) = (i : Int) + 1 by omega]
      exact he2
    · have hlt2 : b < s.heap.objs.size := by
        have two : b = e ∨ b = it := by simpa using hb
        rcases two with rfl | rfl
        · exact hel
        · exact hil
      rw [upd_ne (Nat.ne_of_lt hlt2)]
      exact (hf b hb).1
  done := by
    intro X hP hw hK hc i pins s σ H E I hf st hg
    subst hP hw hK
    obtain ⟨⟨old, he⟩, hit, hne⟩ := st
    obtain ⟨xs, hq, hx⟩ := hg
    obtain ⟨its, rv, p, hz⟩ := I.tuple hq
    have p : s.heap.IsTuple a its.toArray := p
    have hl := rv.length
    have hT : s.TypeIs (.ref e) "enumerate" := ⟨_, he, rfl⟩
    unfold pyNext
    refine wpAny_bind (wpAny_attempt (wpAny_callSpecial?_slot (name := Str.ofString "__next__") hT F.slot_enumerate_next (wpAny_call_entry F.slot_enumerate_next hT F.entry_enumerate_next ?_ (F.args_enumerate_next_1 _))))
    show wpAny _ _ (field (.ref e) 2 >>= _) _ _ _
    refine wpAny_bind (wpAny_field he rfl (x := .ref it) rfl (wpAny_bind (wpAny_nextOf_tuple_end (A := X.A.in1) (I.ok.hd hc) hit p (by simp; omega) fun h1 z hk hz => ?_)))
    obtain ⟨o, ho, hcl⟩ := hz
    refine wpAny_bind (wpAny_isInstance (T := "StopIteration") (b := true) ⟨o, ho, hcl⟩ isSubtype_stop (wpAny_pure ?_))
    exact ⟨rfl, I.turnedL (t' := s.toks) (ch := [e, it]) (fun b ob hb q => hk b ob (fun z => hb (by simp [z])) q) hf⟩
  self := fun A i s Q E st h => by
    obtain ⟨⟨_, he⟩, _⟩ := st
    exact wpAny_pyIter_enum he h
def iEnumT (K : PySem.W.Frag) (ta : TA) : TI := fun σ H R => ta σ H fun vs H1 => ∃ a xs, vs = [.ref a] ∧ SqT K H1 a xs ∧ R (IteT K a) H1
theorem pi_enumT {X : Cx} {e : Expr} {ta : TA} {p pos tpos : Pos} {elts : List Expr} {kk : Nat} (hg : Gl X "enumerate") (hm : X.mg "enumerate" = none) (ha : PA X [e] ta) (hs : starEach [e] X.env = [(false, eval e X.env)]) :
    PI X (.Tuple elts kk tpos) (.Call (.Name "enumerate" p) [e] [] pos) (iEnumT X.K ta) := by
  constructor
  intro pins s σ H R I h
  refine Call_ (ld_blt I hg hm boot_enumerate (PyProof.Rows.callWith_type1 (thn (ha.run pos pins s σ H _ I h) fun us s1 ⟨vs, H1, I1, r1, q1⟩ => ?_) hs rfl))
  obtain ⟨a, xs, ex, hq, q⟩ := q1
  subst ex
  cases r1 with
  | cons r rr =>
    cases rr
    cases r
    obtain ⟨its, rv, p1, _⟩ := I1.tuple hq
    refine call_enumT (items := its.toArray) p1 fun h1 he hit hk => wpAny_pyIter_enum he ?_
    refine ⟨s1.heap.objs.size + 1, [s1.heap.objs.size + 1, s1.heap.objs.size], _, _, H1, rfl, I1.kept (t' := s1.toks) hk, turn_enumT a (s1.heap.objs.size + 1) s1.heap.objs.size, ⟨⟨.none, he⟩, hit, Nat.succ_ne_self _⟩, fun b hb => ?_, q⟩
    have hle : s1.heap.objs.size ≤ b := by
      have two : b = s1.heap.objs.size + 1 ∨ b = s1.heap.objs.size := by simpa using hb
      rcases two with z | z
      · rw [z]
        exact Nat.le_succ _
      · exact Nat.le_of_eq z.symm
    exact I1.fpOk hle (I1.hok.fresh hle)
section
variable {X : Cx} {W : WX} {e : Expr} {Te : TE2} {pos : Pos}
/-- the pairs of enumerate -/
def enumD (ds : List Dt) : List Dt := ds.mapIdx fun i d => .tup [.int (i : Int), d]
theorem enumD_len {ds : List Dt} : (enumD ds).length = ds.length := List.length_mapIdx
theorem enumD_get {ds : List Dt} {i : Nat} {d : Dt} (h : (enumD ds)[i]? = some d) : ∃ z, ds[i]? = some z ∧ d = .tup [.int (i : Int), z] := by
  unfold enumD at h
  rw [List.getElem?_mapIdx] at h
  cases e : ds[i]? with
  | none => rw [e] at h; cases h
  | some z =>
    rw [e] at h
    exact ⟨z, rfl, (Option.some.inj h).symm⟩
def dEnumT (Te : TE2) : TI2 := fun x ds S Q => Te x ds S fun d S1 => ∃ es, asT d = some es ∧ Q (enumD es) S1
theorem j_enumT {elts : List Expr} {kk : Nat} {p tpos : Pos} (he : E2 X W e Te) (hm : X.mg "enumerate" = none) (hg : Gl X "enumerate" := by rfl) (hs : starEach [e] X.env = [(false, eval e X.env)] := by rfl) :
    J2 X W (.Tuple elts kk tpos) (.Call (.Name "enumerate" p) [e] [] pos) (dEnumT Te) := ⟨fun x ds S Q Q' h q => he.mono x ds S _ _ (fun d S1 ⟨es, e, q⟩ => ⟨es, e, h _ _ q⟩) q, by
  obtain ⟨t, pt, r⟩ := he.run
  refine ⟨_, pi_enumT hg hm (pa_cons pt pa_nil (by rw [hs]; rfl)) hs, fun x ds S σ H R h q => r x ds S σ H _ h (he.mono x ds S _ _ (fun d S1 ⟨es, e1, q⟩ v H1 s1 r1 => ?_) q)⟩
  obtain ⟨a, xs, e2, k1, k2⟩ := asT_ok r1 e1
  subst e2
  cases d with
  | tup fs =>
    cases (show some fs = some es from e1)
    obtain ⟨a', xs', e3, g1, g2⟩ := r1
    cases e3
    refine ⟨a, xs', rfl, sqT_mono wo_le g1, q H1 _ s1 fun S2 H2 s2 => ?_⟩
    have g3 : SqT X.K H2 a xs' := sqT_mono wo_le (sqT_mono s2.same g1)
    have kk := g2.mono s2.same
    refine ⟨fun i hi => ?_, fun i hi => ⟨xs', g3, by rw [enumD_len] at hi; rw [g2.length]; exact hi⟩, fun i v H' d hy hd => ?_⟩
    · have hi' : i < xs'.length := by
        rw [enumD_len] at hi
        rw [g2.length]
        exact hi
      exact ⟨xs', xs'[i], g3, List.getElem?_eq_getElem hi'⟩
    · obtain ⟨T, y, ev, hT, eH, hv⟩ := hy
      subst ev eH
      obtain ⟨z, hz, ed⟩ := enumD_get hd
      subst ed
      obtain ⟨u, k3, k4⟩ := kk.get hz
      cases (hv xs' g3).symm.trans k3
      have sm := new_same (o := .tup [.int (i : Nat), y]) s2.wd hT
      exact ⟨⟨sm, new_wd s2.wd hT⟩, T, [.int (i : Nat), y], rfl, SqT.of (new_at s2.wd hT), ⟨_, _, rfl, rfl, ⟨_, _, rfl, k4.mono sm, rfl⟩⟩⟩
  | _ => cases e1⟩
end
end Sc

/-! the reversed copies xs[::-1] -/
namespace Sc
open PySem PySem.Spec PyProof.Rows L2 Sm
theorem rev_pick (xs : Array Value) : ((List.range xs.size).filterMap fun (k : Nat) => xs[(((xs.size : Nat) : Int) - 1 + (k : Int) * -1).toNat]?).toArray = xs.toList.reverse.toArray := by
  have e : ((List.range xs.size).filterMap fun (k : Nat) => xs[(((xs.size : Nat) : Int) - 1 + (k : Int) * -1).toNat]?) = ((List.range xs.size).map fun k => xs.size - 1 - k).filterMap (xs[·]?) := by
    rw [List.filterMap_map]
    refine congrArg (fun f => List.filterMap f (List.range xs.size)) (funext fun k => ?_)
    show xs[(((xs.size : Nat) : Int) - 1 + (k : Int) * -1).toNat]? = xs[xs.size - 1 - k]?
    congr 1
    omega
  rw [e, PySem.W.krv_range, List.filterMap_reverse, PySem.W.krv_all]
section
variable {prog : Program} {w : World} {A : Around} {E : Value → Shared → Prop} {s : Shared}
theorem applied_rev {sl : Addr} {vl vu vs : Value} {n : Nat} {Q : Int × Int × Nat → Shared → Prop} (hs : s.heap.IsSliceOf sl vl vu vs) (pl : IsPart vl none) (pu : IsPart vu none) (ps : IsPart vs (some (-1)))
    (q : Q ((n : Int) - 1, -1, n) s) : wpAny (model prog w) A (Builtin.Slice.sliceApplied (.ref sl) (pure (n : Int))) Q E s := by
  obtain ⟨os, ho, _, hd⟩ := hs
  unfold Builtin.Slice.sliceApplied Builtin.Slice.sliceFields
  refine wpAny_bind (wpAny_bind (wpAny_field ho hd (x := vl) rfl (wpAny_bind (wpAny_field ho hd (x := vu) rfl (wpAny_bind (wpAny_field ho hd (x := vs) rfl (wpAny_pure ?_)))))))
  refine wpAny_bind (HT.slicePart_ ps ?_)
  show wpAny _ _ (if ((-1 : Int) == 0) = true then _ else _) _ _ s
  rw [if_neg (by decide)]
  refine wpAny_bind (HT.slicePart_ pl (wpAny_bind (HT.slicePart_ pu (wpAny_bind (wpAny_pure ?_)))))
  show wpAny _ _ (match Builtin.Slice.sliceAdjust none none (-1) (n : Int) with | (lo, hi) => pure (lo, (-1 : Int), Builtin.Slice.slicePlaces lo hi (-1))) _ _ s
  have e1 : Builtin.Slice.sliceAdjust none none (-1) (n : Int) = ((n : Int) - 1, -1) := rfl
  have e2 : Builtin.Slice.slicePlaces ((n : Int) - 1) (-1) (-1) = n := by
    unfold Builtin.Slice.slicePlaces
    rw [if_neg (by decide)]
    have e3 : (-(-1) : Int) = 1 := by decide
    rw [e3, Int.ediv_one]
    split <;> omega
  rw [e1]
  show wpAny _ _ (pure ((n : Int) - 1, (-1 : Int), Builtin.Slice.slicePlaces ((n : Int) - 1) (-1) (-1))) _ _ s
  rw [e2]
  exact wpAny_pure q
theorem get_revT {t sl : Addr} {items : Array Value} {vl vu vs : Value} {Q : Value → Shared → Prop} (ht : IsTup s.heap t items) (hs : s.heap.IsSliceOf sl vl vu vs) (pl : IsPart vl none) (pu : IsPart vu none) (ps : IsPart vs (some (-1)))
    (q : Q (.ref s.heap.objs.size) { s with heap := s.heap.push { cls := .type "tuple", data := .seq items.toList.reverse.toArray } }) (hz : items.size ≤ sizeLine) : wpAny (model prog w) A (getItem (.ref t) (.ref sl)) Q E s := by
  have hz2 : sizeOk (.seq items.toList.reverse.toArray) := by
    show items.toList.reverse.toArray.size ≤ sizeLine
    rw [List.size_toArray, List.length_reverse, Array.length_toList]
    exact hz
  obtain ⟨os, ho, hcs, hd⟩ := id hs
  have hT : s.TypeIs (.ref sl) "slice" := ⟨os, ho, hcs⟩
  unfold getItem
  try with_reducible refine wpAny_holding ?_
  first | refine wpAny_bind (wpAny_pure ?_) | skip
  refine wpAny_bind (wpAny_sequenceKey ht.typeIs (by decide) (wpAny_bind (wpAny_callSpecial?_slot (name := Str.ofString "__getitem__") ht.typeIs PyProof.Rows.slot_tuple_getitem (wpAny_call_entry PyProof.Rows.slot_tuple_getitem ht.typeIs entry_tuple_getitem ?_ (args_tuple_getitem _ _)))))
  show wpAny _ _ (Builtin.Tuple.tupleItemsOf (.ref t) >>= _) _ _ s
  refine wpAny_bind (tupleItemsOf_ ht (wpAny_bind (wpAny_typeOf hT ?_)))
  rw [if_pos (by decide)]
  refine wpAny_bind (applied_rev hs pl pu ps ?_)
  have no : ¬ (((((items.size : Nat) : Int) - 1) == 0 && (-1 : Int) == 1 && items.size == items.size) = true) := by
    intro z
    rw [Bool.and_eq_true, Bool.and_eq_true] at z
    exact absurd z.1.2 (by decide)
  show wpAny _ _ (if ((((items.size : Nat) : Int) - 1) == 0 && (-1 : Int) == 1 && items.size == items.size) = true then _ else _) _ _ s
  rw [if_neg no, rev_pick]
  first
    | exact wpAny_bind (m := Builtin.Tuple.tupleExact _) (wpAny_newObj_type (wpAny_pure ⟨_, rfl, wpAny_pure q⟩) hz2)
    | exact wpAny_bind (m := Builtin.Tuple.tupleExact _) (wpAny_newObj_type (wpAny_bind (wpAny_pure (wpAny_pure ⟨_, rfl, wpAny_pure q⟩))) hz2)
    | exact wpAny_bind (wpAny_bind (m := Builtin.Tuple.tupleExact _) (wpAny_newObj_type (wpAny_pure (wpAny_pure ⟨_, rfl, wpAny_pure q⟩)) hz2))
    | exact wpAny_bind (wpAny_bind (m := Builtin.Tuple.tupleExact _) (wpAny_newObj_type (wpAny_pure ⟨_, rfl, wpAny_pure q⟩) hz2))
end
def tRevT (K : PySem.W.Frag) (te : TE) : TE := fun σ H Q => te σ H fun x H1 => ∃ a xs, x = .ref a ∧ SqT K H1 a xs ∧ ∀ p, H1 p = none → Q (.ref p) (upd H1 p (.tup xs.reverse))
theorem pe_revT {X : Cx} {e : Expr} {te : TE} {k : Nat} {p1 p2 p3 pos : Pos} (he : PE X e te) : PE X (.Subscript e (.Slice none none (some (.UnaryOp .USub (.Constant (.int 1) k p1) p2)) p3) pos) (tRevT X.K te) := by
  constructor
  intro pins s σ H Q I h
  refine Subscript_ (thn (he.run pins s σ H _ I h) fun v s1 ⟨x, H1, I1, rx, a, xs, ex, hx, q⟩ => ?_)
  subst ex
  cases rx
  have minus : PO X (some (.UnaryOp .USub (.Constant (.int 1) k p1) p2)) (tPart (tUn (rU fun i => .int (-i)) (tC (.int 1)))) := po_some (pe_un un_neg pe_int)
  refine wpAny_Slice (thn (po_none.run pins s1 σ H1 (fun o H2 => o = none ∧ H2 = H1) I1 ⟨rfl, rfl⟩) fun vl s2 ⟨l, H2, I2, pl, el, e2⟩ => thn (po_none.run pins s2 σ H2 (fun o H3 => o = none ∧ H3 = H2) I2 ⟨rfl, rfl⟩) fun vu s3 ⟨u, H3, I3, pu, eu, e3⟩ =>
    thn (minus.run pins s3 σ H3 (fun o H4 => o = some (-1) ∧ H4 = H3) I3 ⟨1, rfl, -1, rfl, rfl, rfl⟩) fun vs s4 ⟨o, H4, I4, ps, eo, e4⟩ => ?_)
  subst el e2 eu e3 eo e4
  have I5 : Inv X pins σ H4 { s4 with heap := s4.heap.push { cls := .type "slice", data := .fields #[vl, vu, vs] } } := I4.kept (t' := s4.toks) fun b ob q => Heap.get?_push_of_some _ q
  obtain ⟨its, r, ht, hz⟩ := I5.tuple hx
  have hl := r.length
  show wpAny (model X.prog X.w) X.A (subscriptTail e (.Slice none none (some (.UnaryOp .USub (.Constant (.int 1) k p1) p2)) p3) (.ref a) (.ref s4.heap.objs.size)) (EP X pins σ Q) X.xe { s4 with heap := s4.heap.push { cls := .type "slice", data := .fields #[vl, vu, vs] } }
  refine tail_any (ops := [.ref a, .ref s4.heap.objs.size]) ht.typeIs PyProof.Rows.slot_tuple_getitem.lookup ?_ (by with_unfolding_all rfl)
  refine get_revT ht (Heap.IsSliceOf.new _ vl vu vs) pl pu ps ?_ (by rw [List.size_toArray]; omega)
  refine ⟨.ref _, _, I5.laid (t' := s4.toks) (o := .tup xs.reverse) (fun b ob q => Heap.get?_push_of_some _ q) (Nat.le_refl _) ⟨by rw [List.length_reverse]; exact hz, its.reverse, r.reverse, ?_⟩, rfl, q _ (I5.hok.fresh (Nat.le_refl _))⟩
  exact IsTup.new _ _
section
variable {X : Cx} {W : WX} {e : Expr} {Te : TE2} {pos : Pos}
def dRevT (Te : TE2) : TE2 := fun x ds S Q => Te x ds S fun d S1 => ∃ es, asT d = some es ∧ Q (.tup es.reverse) S1
theorem e_revT {k : Nat} {p1 p2 p3 : Pos} (he : E2 X W e Te) : E2 X W (.Subscript e (.Slice none none (some (.UnaryOp .USub (.Constant (.int 1) k p1) p2)) p3) pos) (dRevT Te) := ⟨fun x ds S Q Q' h p => he.mono x ds S _ _ (fun d S1 ⟨es, e, q⟩ => ⟨es, e, h _ _ q⟩) p, by
  obtain ⟨t, p, r⟩ := he.run
  refine ⟨_, pe_revT p, fun x ds S σ H Q h q => r x ds S σ H _ h (he.mono x ds S _ _ (fun d S1 ⟨es, e1, q⟩ v H1 s1 r1 => ?_) q)⟩
  obtain ⟨a, xs, e2, k1, k2⟩ := asT_ok r1 e1
  exact ⟨a, xs, e2, k1, fun p hp => newT.run s1 k2.rev q hp⟩⟩
def dRevL (Te : TE2) : TE2 := fun x ds S Q => Te x ds S fun d S1 => ∃ es, asL S1 d = some es ∧ newL es.reverse S1 Q
theorem e_revL {k : Nat} {p1 p2 p3 : Pos} (he : E2 X W e Te) : E2 X W (.Subscript e (.Slice none none (some (.UnaryOp .USub (.Constant (.int 1) k p1) p2)) p3) pos) (dRevL Te) := ⟨fun x ds S Q Q' h p => he.mono x ds S _ _ (fun d S1 ⟨es, e, q⟩ => ⟨es, e, newL.mono h q⟩) p, by
  obtain ⟨t, p, r⟩ := he.run
  refine ⟨_, pe_revL p, fun x ds S σ H Q h q => r x ds S σ H _ h (he.mono x ds S _ _ (fun d S1 ⟨es, e1, q⟩ v H1 s1 r1 => ?_) q)⟩
  obtain ⟨a, xs, e2, k1, k2⟩ := asL_ok s1.wd r1 e1
  exact ⟨a, xs, e2, k1, fun p hp => newL.run s1 k2.rev q hp⟩⟩
end
end Sc
namespace Sc
open PySem PySem.Spec PyProof.Rows L2 Sm
section
variable {G : TG2} {B : TS2} {x : XK2} {D : Ends2}
/-- a loop over what is told by its number -/
theorem loop_idx (enc : Nat → Dt) (I : Nat → Ds → Cells → Prop) {n : Nat} {ds : Ds} {S : Cells} (h0 : I 0 ds S)
    (step : ∀ (i : Nat) ds S (N : Ds → Cells → Prop), i < n → I i ds S → (∀ ds' S', I (i + 1) ds' S' → N ds' S') → G (enc i) ds S fun ds1 S1 => B x ⟨N, D.rt, D.nx, N⟩ ds1 S1)
    (done : ∀ ds S, I n ds S → D.nx ds S) : dLoop G B x D ((List.range n).map enc) ds S := by
  refine loop_rest (B := B) enc (fun r ds S => ∃ i : Nat, I i ds S ∧ i + r.length = n ∧ r = List.range' i r.length) ?st ?dn _ ds S ⟨0, h0, by simp, by simp [List.range_eq_range']⟩
  case st =>
    intro a r ds S N ⟨i, h, e, m⟩ hN
    rw [List.length_cons, List.range'_succ] at m
    obtain ⟨rfl, hr⟩ := List.cons.inj m
    rw [List.length_cons] at e
    exact step a ds S N (by omega) h fun ds' S' h' => hN ds' S' ⟨a + 1, h', by omega, hr⟩
  case dn =>
    intro ds S ⟨i, h, e, _⟩
    rw [List.length_nil] at e
    have e' : i = n := by omega
    rw [e'] at h
    exact done ds S h
end
theorem enumD_map {α : Type} (g : α → Dt) (l : List α) (z : α) : enumD (l.map g) = (List.range l.length).map fun (j : Nat) => .tup [.int (j : Int), g (l.getD j z)] := by
  refine List.ext_getElem? fun i => ?_
  unfold enumD
  rw [List.getElem?_mapIdx, List.getElem?_map, List.getElem?_map]
  by_cases h : i < l.length
  · rw [List.getElem?_range h, List.getElem?_eq_getElem h]
    simp [List.getD, List.getElem?_eq_getElem h]
  · rw [List.getElem?_eq_none (by omega), List.getElem?_eq_none (by simp; omega)]
    rfl
theorem map_set {α : Type} (f : Nat → α) (n k : Nat) (d : α) : ((List.range n).map f).set k d = (List.range n).map fun i => if i = k then d else f i := by
  refine List.ext_getElem? fun i => ?_
  rw [List.getElem?_set, List.getElem?_map, List.getElem?_map]
  by_cases h : i < n
  · rw [List.getElem?_range h]
    by_cases e : k = i
    · rw [if_pos e, if_pos (by simp; omega)]
      simp [e]
    · rw [if_neg e]
      simp [Ne.symm e]
  · rw [List.getElem?_eq_none (by simp; omega)]
    by_cases e : k = i
    · rw [if_pos e, if_neg (by simp; omega)]
      rfl
    · rw [if_neg e]
      rfl
theorem isIn_int (i : Int) (l : List Int) : isIn (.int i) (l.map Dt.int) = decide (i ∈ l) := by
  unfold isIn
  rw [List.map_map]
  show inV (.int i) (l.map V.int) = _
  induction l with
  | nil => rfl
  | cons a l ih =>
    have e : inV (.int i) (V.int a :: l.map V.int) = ((eqV (.int a) (.int i)) || inV (.int i) (l.map V.int)) := rfl
    rw [List.map_cons, e, ih]
    have e2 : eqV (.int a) (.int i) = (a == i) := rfl
    rw [e2]
    by_cases h : a = i
    · subst h; simp
    · have h2 : ¬ i = a := fun e => h e.symm
      simp [h, h2]
end Sc

namespace Sc
open PySem PySem.Spec PyProof.Rows L2 Sm
local macro_rules | `(tactic| walk_at "wp") => `(tactic| simp only [dRet, dSeq, dIfS, dNext, dDrop, dSet, dAsg, dPar, dPar3, dAug, dVar, dC, dOp, dUn, dTest, dTru, dNot, dAnd, dOr, dAndV, dOrV, dNotV, dIf, dChain, dCall, dCons, dNil, dCB, dTup, dLst, dIsi, dStore, kSub, dYes, dFor, dIt, dItL, dRng1, dRng2, dSl, dNoP, dPart, dMt, dRaise,
  qI, qI0, qAdd, qSub, qMul, qFdiv, qFdivN, qMod, qPow, qLt, qLe, qGt, qGe, qEq, qNe, qIsN, qNotN, qIsB, qNotB, qNeg, qAbs, qMax2, qMin2, qLen, qIx, qTupOf, qLstOf, qSlT, qSlL, qCatT, qRepT, kName, kTup, kCons, kNil, start2, List.map_cons, List.map_nil, List.length_cons, List.length_nil, List.replicate, List.cons_append, List.nil_append, List.append_nil,
  List.getElem?_cons_zero, List.getElem?_cons_succ, List.set_cons_zero, List.set_cons_succ, Option.some.injEq, exists_eq_left', exists_eq_left, Dt.int.injEq, Dt.bl.injEq, Dt.ref.injEq, Dt.tup.injEq, Dt.lst.injEq, Nat.sub_zero, Nat.zero_add, Nat.reduceAdd, Nat.reduceSub, asQ_tup, asQ_lst, asL_lst, asT_tup, asQ_put, asL_put, exists_and_left, List.cons.injEq, and_true, isN_int, isN_non, truD_int, truD_non, at_0, at_1, at_2, ix20, ix21, Cells.put_same, Cells.put_put, Cell.lst.injEq, sEq_ii, sEq_bb, sEq_ss, sEq_nn, sEq_ni, sEq_in, true_and, decide_eq_true_eq, and_assoc])

/-! ### places that were seen -/
def dPt (l : List Int) : Dt := .tup (l.map Dt.int)
theorem dPt_ok (l : List Int) : Ok0 1 (dPt l) := .tup fun d h => by
  obtain ⟨i, _, rfl⟩ := List.mem_map.mp h
  exact .int _ _
theorem map_int_inj : ∀ {l m : List Int}, l.map Dt.int = m.map Dt.int ↔ l = m
  | [], [] => by simp
  | [], _ :: _ => by simp
  | _ :: _, [] => by simp
  | a :: l, b :: m => by simp [map_int_inj]
theorem dPt_inj {l m : List Int} : dPt l = dPt m ↔ l = m := by
  unfold dPt
  rw [Dt.tup.injEq]
  exact map_int_inj
def sp_keeps : Sp2 := psp (α := List Sl × Int × List Int) (fun a => [dCh a.1, .int a.2.1, dPt a.2.2]) (fun a => okC a.1 ∧ 0 ≤ a.2.1 ∧ a.2.1 ≤ 1000) (fun a => .bl (decide (plc (shown a.1 a.2.1) = a.2.2)))
def T_keeps : TS2 :=
  (dSeq (dSet 3 (dCall sp_shown_by (dCons (dVar 0) (dCons (dVar 1) dNil))))
  (dRet (dAndV (dOp qEq (dOp qIx (dVar 3) (dC (.int 2))) (dCB qLen (dCons (dVar 2) dNil))) (dOp qEqD (dCB qTupOf (dCons (dCall sp_places_of (dCons (dVar 3) dNil)) dNil)) (dVar 2)))))
theorem pure_keeps : Pure 4 sp_keeps T_keeps := by
  rintro ds S Q E frg ⟨⟨c, n, l⟩, rfl, ⟨hc, h0, h1⟩, q⟩
  have hc : okC c := hc
  have h0 : 0 ≤ n := h0
  have h1 : n ≤ 1000 := h1
  have z := shown_in hc h0
  have q : Q (.bl (decide (plc (shown c n) = l))) S := q
  unfold T_keeps
  walk_at "wp"
  refine ⟨(c, n), rfl, ⟨hc.2, h0, by show n ≤ 10 ^ 18; omega⟩, ?_⟩
  dsimp only
  rw [dPg_eq]
  walk_at "wp"
  unfold dPt
  walk_at "wp"
  by_cases hl : (shown c n).2.2 = (l.length : Int)
  · refine iteP (by rw [List.length_map]; exact hl) ⟨shown c n, rfl, ⟨z.1, by omega⟩, _, rfl, _, DEq.mk (dPt_ok _) (dPt_ok l) dPt_inj.symm, q⟩
  · refine iteN (by rw [List.length_map]; exact hl) ?_
    have e : ¬ plc (shown c n) = l := fun e => hl (by rw [← e, plc_len]; omega)
    rw [decide_eq_false e] at q
    exact q
def T_are_places : TS2 :=
  (dSeq (dIfS (dOr (dNot (dTest (dIsi "tuple" (dVar 0)))) (dTest (dOp qGt (dCB qLen (dCons (dVar 0) dNil)) (dC (.int 200))))) (dRet (dC (.bl false))) dNext)
  (dRet (dCB qAll (dCons (dLc (dIt (dVar 0)) (kName 2) dYes (dCall sp_is_integer (dCons (dVar 2) (dCons (dC (.int 0)) (dCons (dVar 1) dNil))))) dNil))))
def isPls (d : Dt) (hi : Int) : Bool := match d with
  | .tup ds => decide (ds.length ≤ 200) && ds.all (fun x => isInt x 0 hi)
  | _ => false
def sp_are_places : Sp2 := psp (α := Dt × Int) (fun a => [a.1, .int a.2]) (fun a => Nr a.1) (fun a => .bl (isPls a.1 a.2))
theorem pure_are_places : Pure 3 sp_are_places T_are_places := by
  rintro ds S Q E frg ⟨⟨d, hi⟩, rfl, h, q⟩
  have h : Nr d := h
  have q : Q (.bl (isPls d hi)) S := q
  unfold T_are_places
  walk_at "wp"
  refine ⟨_, isi_tuple h, ?_⟩
  cases h with
  | @tup es hh =>
    unfold isPls at q
    dsimp only at q
    refine iteN (by first | (show ¬ (!true) = true; decide) | simp [isiN]) ⟨_, rfl, ?_⟩
    by_cases hl : es.length ≤ 200
    · refine iteN (by omega) ?_
      refine lc_map (items := es) (fun d => .bl (isInt d 0 hi)) (fun R r => ⟨_, rfl, es, rfl, r⟩) (by omega) (fun d hd S R r => ?_) ?_
      · walk_at "wp"
        exact ⟨(d, 0, hi), rfl, hh d hd, r⟩
      · refine ⟨_, es.map fun d => isInt d 0 hi, rfl, ?_, ?_⟩
        · show some _ = some _
          rw [List.map_map]
          rfl
        · rw [List.all_map]
          simpa [hl] using q
    · refine iteP (by omega) ?_
      rw [decide_eq_false hl] at q
      exact q
  | _ => exact iteP (by first | rfl | simp [isiN]) q
def T_possible_lengths (a_InvalidPlaces : Addr) : TS2 :=
  (dSeq (dDrop (dCall sp_require_chain (dCons (dVar 0) dNil)))
  (dSeq (dIfS (dNot (dTest (dCall sp_are_places (dCons (dVar 1) (dCons (dOp qSub (dC (.int 1000)) (dC (.int 1))) dNil))))) (dRaise a_InvalidPlaces) dNext)
  (dSeq (dDrop (dCall sp_require_length (dCons (dVar 2) (dCons (dC (.int 1000)) dNil))))
  (dRet (dLc (dRng1 (dOp qAdd (dVar 2) (dC (.int 1)))) (kName 3) (dTest (dCall sp_keeps (dCons (dVar 0) (dCons (dVar 3) (dCons (dVar 1) dNil))))) (dVar 3))))))
def sp_possible_lengths : Sp2 := lsp (α := List Sl × List Int × Int) (fun a => [dCh a.1, dPt a.2.1, .int a.2.2]) (fun a => okC a.1 ∧ isPls (dPt a.2.1) 999 = true ∧ 0 ≤ a.2.2 ∧ a.2.2 ≤ 1000) (fun a => (filI (fun n => decide (plc (shown a.1 n) = a.2.1)) (a.2.2 + 1).toNat).map Dt.int)
theorem pure_possible_lengths (a : Addr) : Pure 4 sp_possible_lengths (T_possible_lengths a) := by
  rintro ds S Q E frg ⟨⟨c, l, m⟩, rfl, ⟨hc, hl, h0, h1⟩, q⟩
  have hc : okC c := hc
  have h0 : 0 ≤ m := h0
  have h1 : m ≤ 1000 := h1
  unfold T_possible_lengths
  walk_at "wp"
  refine ⟨_, rfl, chain_req hc, (dPt l, 1000 - 1), rfl, .tup (fun d h => by obtain ⟨i, _, rfl⟩ := List.mem_map.mp h; exact .int _), ?_⟩
  walk_at "wp"
  refine iteN (by have e : isPls (dPt l) (1000 - 1) = true := hl; rw [e]; decide) ⟨(.int m, 1000), rfl, len_req h0 h1, ?_⟩
  unfold dLc
  walk_at "wp"
  refine ⟨by omega, by omega, ?_⟩
  refine comp_filI (fun n => decide (plc (shown c n) = l)) Dt.int (by omega) (fun i hi S R1 R2 y n => ?_) q
  walk_at "wp"
  rw [Int.zero_add]
  exact ⟨(c, (i : Int), l), rfl, ⟨hc, by show 0 ≤ (i : Int); omega, by show (i : Int) ≤ 1000; omega⟩, _, rfl, ite2 (fun k => y k) (fun k => n (Bool.eq_false_iff.mpr k))⟩
def T_require_chains (a_InvalidChains : Addr) : TS2 :=
  (dIfS (dOr (dNot (dTest (dIsi "tuple" (dVar 0)))) (dOr (dNot (dTest (dChain qLe qLe (dC (.int 1)) (dCB qLen (dCons (dVar 0) dNil)) (dVar 1)))) (dNot (dTest (dCB qAll (dCons (dLc (dIt (dVar 0)) (kName 2) dYes (dCall sp_is_chain (dCons (dVar 2) dNil))) dNil)))))) (dRaise a_InvalidChains) dNext)
def dChs (cs : List (List Sl)) : Dt := .tup (cs.map dCh)
def sp_require_chains : Sp2 := psp (α := List (List Sl) × Int) (fun a => [dChs a.1, .int a.2]) (fun a => (∀ c, c ∈ a.1 → okC c) ∧ 1 ≤ a.1.length ∧ (a.1.length : Int) ≤ a.2 ∧ a.2 ≤ 1000) (fun _ => .non)
theorem dChs_nr (cs : List (List Sl)) : Nr (dChs cs) := .tup fun d h => by
  obtain ⟨c, _, rfl⟩ := List.mem_map.mp h
  exact dCh_nr c
theorem pure_require_chains (a : Addr) : Pure 3 sp_require_chains (T_require_chains a) := by
  rintro ds S Q E frg ⟨⟨cs, m⟩, rfl, ⟨hc, h1, h2, h3⟩, q⟩
  have h1 : 1 ≤ cs.length := h1
  have h2 : (cs.length : Int) ≤ m := h2
  have h3 : m ≤ 1000 := h3
  unfold T_require_chains
  walk_at "wp"
  refine ⟨_, isi_tuple (dChs_nr cs), iteN (by first | (show ¬ (!true) = true; decide) | simp [isiN, dChs]) ?_⟩
  unfold dChs
  walk_at "wp"
  refine iteP (by rw [List.length_map]; omega) (iteN (by rw [List.length_map]; simpa using h2) ?_)
  refine lc_map (items := cs.map dCh) (fun d => .bl (isChn d)) (fun R r => ⟨_, rfl, _, rfl, r⟩) (by rw [List.length_map]; omega) (fun d hd S R r => ?_) ?_
  · obtain ⟨c, _, rfl⟩ := List.mem_map.mp hd
    walk_at "wp"
    exact ⟨dCh c, rfl, dCh_nr c, r⟩
  · refine ⟨_, (cs.map dCh).map isChn, rfl, ?_, _, rfl, iteN ?_ q⟩
    · show some _ = some _
      rw [List.map_map, List.map_map, List.map_map]
      rfl
    · have e : ((cs.map dCh).map isChn).all id = true := by
        rw [List.all_eq_true]
        intro b hb
        obtain ⟨d, hd, rfl⟩ := List.mem_map.mp hb
        obtain ⟨c, hcc, rfl⟩ := List.mem_map.mp hd
        exact dCh_isChn (hc c hcc)
      rw [e]
      decide

/-! ### who wrote last -/
def hasW (cs : List (List Sl)) (n i : Int) (j : Int) : Bool := decide (i ∈ plc (shown (cs.getD j.toNat []) n))
def lastW (cs : List (List Sl)) (n i : Int) (j : Nat) : Option Int := (filI (hasW cs n i) j).getLast?
theorem lastW_succ {cs : List (List Sl)} {n i : Int} {j : Nat} : lastW cs n i (j + 1) = if hasW cs n i (j : Int) = true then some (j : Int) else lastW cs n i j := by
  unfold lastW
  rw [filI_succ]
  by_cases h : hasW cs n i (j : Int) = true
  · rw [if_pos h, if_pos h, List.getLast?_append]
    rfl
  · rw [if_neg h, if_neg h, List.append_nil]
def wrF (cs : List (List Sl)) (n : Nat) (j : Nat) : List Dt := (List.range n).map fun (i : Nat) => dO (lastW cs (n : Int) (i : Int) j)
theorem wrF_len {cs : List (List Sl)} {n j : Nat} : (wrF cs n j).length = n := by
  unfold wrF
  simp
theorem wrF_ok {cs : List (List Sl)} {n j : Nat} : Ok0 1 (.lst (wrF cs n j)) := .lst fun d h => by
  obtain ⟨i, _, rfl⟩ := List.mem_map.mp h
  exact dO_ok _ _
theorem put_all {l : List Int} {d : Dt} {b : Nat → Dt} {i : Nat} : l.foldl (fun (b : Nat → Dt) (a : Int) => fun (i : Nat) => if i = a.toNat then d else b i) b i = if i ∈ l.map Int.toNat then d else b i := by
  induction l generalizing b with
  | nil => rfl
  | cons a l ih =>
    rw [List.foldl_cons, ih, List.map_cons]
    by_cases h : i ∈ l.map Int.toNat
    · rw [if_pos h, if_pos (List.mem_cons_of_mem _ h)]
    · rw [if_neg h]
      by_cases e : i = a.toNat
      · rw [if_pos e, if_pos (by rw [e]; exact List.mem_cons_self)]
      · rw [if_neg e, if_neg (fun z => (List.mem_cons.mp z).elim e h)]
theorem plc_in {c : List Sl} (hc : okC c) {n k : Int} (hn : 0 ≤ n) (h : k ∈ plc (shown c n)) : 0 ≤ k ∧ k < n := by
  unfold plc at h
  obtain ⟨i, hi, rfl⟩ := List.mem_map.mp h
  have hi := List.mem_range.mp hi
  exact shown_place c n (i : Int) hc.2 hn (by omega) (by show (i : Int) < (shown c n).2.2; omega)
def sp_written : Sp2 := lsp (α := Int × List (List Sl)) (fun a => [.int a.1, dChs a.2]) (fun a => (0 ≤ a.1 ∧ a.1 ≤ 1000) ∧ (∀ c, c ∈ a.2 → okC c) ∧ 1 ≤ a.2.length ∧ a.2.length ≤ 8) (fun a => wrF a.2 a.1.toNat a.2.length)
theorem rep_none {n : Nat} : (List.replicate n [Dt.non]).flatten = (List.range n).map fun _ => Dt.non := by
  induction n with
  | zero => rfl
  | succ n ih => rw [List.replicate_succ', List.flatten_append, ih, List.range_succ, List.map_append]; rfl
theorem ixN_in {n : Nat} {k : Int} (h0 : 0 ≤ k) (h1 : k < n) : ixN n k = some k.toNat := by
  unfold ixN
  rw [if_pos h0, if_pos h1]
def T_written : TS2 :=
  (dSeq (dDrop (dCall sp_require_length (dCons (dVar 0) (dCons (dC (.int 1000)) dNil))))
  (dSeq (dDrop (dCall sp_require_chains (dCons (dVar 1) (dCons (dC (.int 8)) dNil))))
  (dSeq (dSet 2 (dOp qRepL (dLst (dCons (dC .non) dNil)) (dVar 0)))
  (dSeq (dFor (dEnumT (dVar 1)) (kTup 2 (kCons (kName 3) (kCons (kName 4) kNil))) (dFor (dItL (dCall sp_places_of (dCons (dCall sp_shown_by (dCons (dVar 4) (dCons (dVar 0) dNil))) dNil))) (kName 5) (dStore (dVar 3) (dVar 2) (dVar 5))))
  (dRet (dVar 2))))))
theorem pure_written : Pure 6 sp_written T_written := by
  rintro ds S Q E frg ⟨⟨n, cs⟩, rfl, ⟨⟨h0, h1⟩, hc, h2, h3⟩, q⟩
  have h0 : 0 ≤ n := h0
  have h1 : n ≤ 1000 := h1
  have h2 : 1 ≤ cs.length := h2
  have h3 : cs.length ≤ 8 := h3
  obtain ⟨m, rfl⟩ : ∃ m : Nat, n = (m : Int) := ⟨n.toNat, by omega⟩
  have fin : ∀ p : Addr, S p = none → Q (.ref p) (S.put p (.lst (wrF cs m cs.length))) := fun p hp => by
    rcases q with q | q
    · exact frg.fz S p _ hp q
    · exact q p hp
  unfold T_written
  walk_at "wp"
  refine ⟨(.int (m : Int), 1000), rfl, len_req h0 h1, (cs, 8), rfl, ⟨hc, h2, by show (cs.length : Int) ≤ 8; omega, by show (8 : Int) ≤ 1000; decide⟩, by decide, .inr fun p0 n0 => ?_⟩
  unfold qRepL
  walk_at "wp"
  refine ⟨by omega, by omega, by rw [Int.toNat_natCast]; simp; omega, .inr fun p np => ?_⟩
  have hp : S p = none := by
    by_cases e : p = p0
    · rw [e] at np
      rw [Cells.put_same] at np
      cases np
    · rw [Cells.put_ne e] at np
      exact np
  have ne : p0 ≠ p := Cells.ne_new Cells.put_same np
  rw [rep_none, Int.toNat_natCast]
  unfold dEnumT dChs
  walk_at "wp"
  rw [enumD_map dCh cs []]
  refine loop_idx _ (fun j ds S2 => S2 = (S.put p0 (.lst [.non])).put p (.lst (wrF cs m j)) ∧ ∃ x3 x4 x5, ds = [some (.int (m : Int)), some (.tup (cs.map dCh)), some (.ref p), x3, x4, x5]) ⟨rfl, _, _, _, rfl⟩ ?_ ?_
  · rintro j ds S2 N hj ⟨rfl, _, _, _, rfl⟩ hN
    have hcj : okC (cs.getD j []) := hc _ (by
      rw [List.getD_eq_getElem?_getD, List.getElem?_eq_getElem hj]
      exact List.getElem_mem hj)
    have z := shown_in hcj h0
    walk_at "wp"
    refine ⟨(cs.getD j [], (m : Int)), rfl, ⟨hcj.2, h0, by show (m : Int) ≤ 10 ^ 18; omega⟩, shown (cs.getD j []) (m : Int), rfl, ⟨z.1, by omega⟩, _, rfl, ?_⟩
    refine loop_fold Dt.int (fun (f : Nat → Dt) ds S2 => S2 = (S.put p0 (.lst [.non])).put p (.lst ((List.range m).map f)) ∧ ∃ x4 x5, ds = [some (.int (m : Int)), some (.tup (cs.map dCh)), some (.ref p), some (.int (j : Int)), x4, x5]) (fun b a => fun i => if i = a.toNat then .int (j : Int) else b i) (b := fun (i : Nat) => dO (lastW cs (m : Int) (i : Int) j)) ⟨rfl, _, _, rfl⟩ ?_ ?_
    · rintro f a ds S3 N3 ha ⟨rfl, _, _, rfl⟩ hN3
      have hr := plc_in hcj h0 ha
      walk_at "wp"
      refine ⟨a.toNat, ixN_in hr.1 (by simp; omega), ?_⟩
      rw [map_set]
      exact hN3 _ _ ⟨rfl, _, _, rfl⟩
    · rintro ds S3 ⟨rfl, _, _, rfl⟩
      refine hN _ _ ⟨?_, _, _, _, rfl⟩
      congr 2
      unfold wrF
      refine List.map_congr_left fun i hi => ?_
      rw [put_all, lastW_succ]
      have e : hasW cs (m : Int) (i : Int) (j : Int) = decide (i ∈ (plc (shown (cs.getD j []) (m : Int))).map Int.toNat) := by
        unfold hasW
        rw [Int.toNat_natCast, decide_eq_decide]
        constructor
        · intro h
          exact List.mem_map.mpr ⟨(i : Int), h, Int.toNat_natCast _⟩
        · intro h
          obtain ⟨k, hk, e⟩ := List.mem_map.mp h
          have := plc_in hcj h0 hk
          have e2 : k = (i : Int) := by omega
          rw [← e2]
          exact hk
      rw [e]
      by_cases h : i ∈ (plc (shown (cs.getD j []) (m : Int))).map Int.toNat
      · rw [if_pos h, if_pos (by simpa using h)]
        rfl
      · rw [if_neg h, if_neg (by simpa using h)]
  · rintro ds S2 ⟨rfl, _, _, _, rfl⟩
    walk_at "wp"
    rw [put_comm ne]
    refine frg.fg _ _ _ _ ?_ (fin p hp)
    rw [Cells.put_ne ne]
    exact n0
end Sc

/-! a tuple, not empty, times 0 or 1, or more -/
namespace Sc
open PySem PySem.Spec PyProof.Rows L2 Sm
open PySem.SeqAt
open PySem.AutoSeq1 (wpAny_loadPart')
theorem mul_one' (l : Addr) (items : Array Value) (n : Nat) (dd : Option Addr) (sl : Array (Option Value)) (u : Tok) :
    Meets (Builtin.«tuple.__mul__» ⟨[.ref l, .int 1 u], []⟩) (fun _ R s => s.heap.get? l = some { cls := .type "tuple", dict := dd, data := .seq items n, slots := sl } ∧ R (.ok (.ret (Value.ref l))) s) :=
  .of_wp fun prog w A R s h => by
    obtain ⟨hp, g, d, tk, os⟩ := s
    obtain ⟨hl, h⟩ := h
    have f1 := AutoSeq1.idx_int
    wp_walk using wpAny_loadPart' hl
    exact ⟨_, rfl, h⟩
theorem mul_zero' (l : Addr) (items : Array Value) (n : Nat) (dd : Option Addr) (sl : Array (Option Value)) (u : Tok) (hi : items.isEmpty = false) :
    Meets (Builtin.«tuple.__mul__» ⟨[.ref l, .int 0 u], []⟩) (fun _ R s => s.heap.get? l = some { cls := .type "tuple", dict := dd, data := .seq items n, slots := sl } ∧ R (.ok (.ret (Value.ref s.heap.objs.size))) { s with heap := s.heap.push { cls := Value.type "tuple", data := Data.seq #[] }, toks := s.toks }) :=
  .of_wp fun prog w A R s h => by
    obtain ⟨hp, g, d, tk, os⟩ := s
    obtain ⟨hl, h⟩ := h
    have f1 := AutoSeq1.idx_int
    have c1 : (items.isEmpty || (0 : Int) == 1) = false := by rw [hi]; rfl
    wp_walk using wpAny_loadPart' hl
    repeat (first
      | (refine wpAny_ite_false (decide_eq_false (by rw [c1]; exact Bool.false_ne_true)) ?_; wp_walk using wpAny_loadPart' hl))
    exact ⟨_, rfl, h⟩
/-- a tuple, not empty, so many times -/
def rRepAny (K : PySem.W.Frag) : R2 := fun x y H Q => ∃ l k xs, x = .ref l ∧ y = .int k ∧ SqT K H l xs ∧ xs ≠ [] ∧ 0 ≤ k ∧ k ≤ 1000 ∧ xs.length ≤ 1000 ∧ (k = 1 → Q (.ref l) H) ∧ (k ≠ 1 → ∀ p, H p = none → Q (.ref p) (upd H p (.tup (List.replicate k.toNat xs).flatten)))
theorem op_repAny {X : Cx} : OpR X (binaryOp .Mult) (rRepAny X.K) := by
  intro pins s σ H x y v u Q I rx ry h
  obtain ⟨l, k, xs, rfl, rfl, hT, hne, h0, h1, hz, q1, q2⟩ := h
  by_cases h2 : 2 ≤ k
  · exact op_repT pins s σ H _ _ v u Q I rx ry ⟨l, k, xs, rfl, rfl, hT, hne, h2, h1, hz, q2 (by omega)⟩
  · cases rx
    obtain ⟨t, rfl⟩ := ry
    obtain ⟨its, r, ⟨⟨cls, dd, data, sl⟩, ho, hc, n, hd⟩, hs⟩ := I.tuple hT
    simp only at hc hd
    subst hc hd
    have hi : its.toArray.isEmpty = false := by
      cases its with
      | nil =>
        cases r
        exact absurd rfl hne
      | cons a b => rfl
    have cs : k = 0 ∨ k = 1 := by omega
    rcases cs with rfl | rfl
    · refine wpAny_binaryOp_repeat_ref (T := "tuple") (U := "int") (by decide) ⟨_, ho, rfl⟩ (fun s' => typeIs_int s' 0 t) noFill_tuple_mul F.fills_int_mul F.slot_int_rmul repeat_tuple F.slot_int_index.lookup
        (call_meets F.slot_int_rmul (typeIs_int s 0 t) F.entry_int_rmul (F.args_int_rmul_2 _ _) (int_rmul_tuple 0 t l its.toArray n dd sl) ⟨ho, rfl, ⟨_, ho, rfl⟩, call_meets F.slot_tuple_mul ⟨_, ho, rfl⟩ F.entry_tuple_mul (F.args_tuple_mul_2 _ _) (mul_zero' l its.toArray n dd sl t hi) ⟨ho, ?_⟩⟩)
      refine ⟨.ref s.heap.objs.size, _, I.laid (t' := s.toks) (o := .tup []) (fun b ob q => Heap.get?_push_of_some _ q) (Nat.le_refl _) ⟨Nat.zero_le _, [], .nil, IsTup.new _ _⟩, rfl, ?_⟩
      have := q2 (by decide) s.heap.objs.size (I.hok.fresh (Nat.le_refl _))
      exact this
    · refine wpAny_binaryOp_repeat_ref (T := "tuple") (U := "int") (by decide) ⟨_, ho, rfl⟩ (fun s' => typeIs_int s' 1 t) noFill_tuple_mul F.fills_int_mul F.slot_int_rmul repeat_tuple F.slot_int_index.lookup
        (call_meets F.slot_int_rmul (typeIs_int s 1 t) F.entry_int_rmul (F.args_int_rmul_2 _ _) (int_rmul_tuple 1 t l its.toArray n dd sl) ⟨ho, rfl, ⟨_, ho, rfl⟩, call_meets F.slot_tuple_mul ⟨_, ho, rfl⟩ F.entry_tuple_mul (F.args_tuple_mul_2 _ _) (mul_one' l its.toArray n dd sl t) ⟨ho, ?_⟩⟩)
      exact ⟨.ref l, H, I, rfl, q1 rfl⟩
section
variable {X : Cx}
def qRepA : QO := fun d e S Q => ∃ ds k, asT d = some ds ∧ e = .int k ∧ ds ≠ [] ∧ 0 ≤ k ∧ k ≤ 1000 ∧ ds.length ≤ 1000 ∧ Q (.tup (List.replicate k.toNat ds).flatten) S
theorem o_repA : O2 X (binaryOp .Mult) qRepA := ⟨fun d e S Q Q' hq ⟨ds, k, h1, h2, h3, h4, h5, h6, q⟩ => ⟨ds, k, h1, h2, h3, h4, h5, h6, hq _ _ q⟩, _, op_repAny, fun d e v u S H Q w r1 r2 ⟨ds, k, h1, h2, h3, h4, h5, h6, q⟩ => by
  obtain ⟨a, xs, e1, k1, k2⟩ := asT_ok r1 h1
  subst h2 e1
  refine ⟨a, k, xs, rfl, r2, k1, fun z => h3 ?_, h4, h5, by rw [k2.length]; exact h6, fun e => ?_, fun _ p hp => newT.run ⟨Same.refl _, w⟩ (k2.rep k.toNat) q hp⟩
  · have := k2.length
    rw [z] at this
    exact List.eq_nil_of_length_eq_zero this.symm
  · subst e
    have e2 : (List.replicate (Int.toNat 1) ds).flatten = ds := by
      show (List.replicate 1 ds).flatten = ds
      simp
    rw [e2] at q
    refine q _ H ⟨Same.refl _, w⟩ ?_
    cases d with
    | tup es => cases (show some es = some ds from h1); exact r1
    | _ => cases h1⟩
end
end Sc

namespace Sc
open PySem PySem.Spec PyProof.Rows L2 Sm
/-! ### parts of chains, as data -/
theorem cutG_map {α β : Type} {g : α → β} {c : List α} {lo hi : Option Int} : cutG (c.map g) lo hi = (cutG c lo hi).map g := by
  unfold cutG
  rw [List.length_map, List.map_take, List.map_drop]
theorem cutG_mem {α : Type} {c : List α} {lo hi : Option Int} {s : α} (h : s ∈ cutG c lo hi) : s ∈ c := List.mem_of_mem_drop (List.mem_of_mem_take h)
theorem sIx_nat {n d i : Nat} : HT.sIx n d (some (i : Int)) = min i n := by
  simp only [HT.sIx]
  first
    | omega
    | (split <;> omega)
theorem sIx_none {n d : Nat} : HT.sIx n d none = d := rfl
theorem cutG_to {α : Type} {c : List α} {i : Nat} : cutG c none (some (i : Int)) = c.take i := by
  unfold cutG
  rw [sIx_nat, sIx_none, List.drop_zero, Nat.sub_zero]
  by_cases h : i ≤ c.length
  · rw [Nat.min_eq_left h]
  · rw [Nat.min_eq_right (by omega), List.take_of_length_le (by omega), List.take_of_length_le (by omega)]
theorem cutG_from {α : Type} {c : List α} {i : Nat} : cutG c (some (i : Int)) none = c.drop i := by
  unfold cutG
  rw [sIx_nat, sIx_none, List.take_of_length_le (by rw [List.length_drop]; omega)]
  by_cases h : i ≤ c.length
  · rw [Nat.min_eq_left h]
  · rw [Nat.min_eq_right (by omega), List.drop_of_length_le (by omega), List.drop_of_length_le (by omega)]
theorem cutG_next {α : Type} {c : List α} {i : Nat} : cutG c (some ((i : Int) + 1)) none = c.drop (i + 1) := by
  have e : (i : Int) + 1 = ((i + 1 : Nat) : Int) := by omega
  rw [e, cutG_from]
theorem at_mapG {α β : Type} {g : α → β} {l : List α} {i : Int} {s : α} (h : atI l i = some s) : atI (l.map g) i = some (g s) := by
  unfold atI at h ⊢
  rw [List.length_map]
  cases e : ixN l.length i with
  | none => rw [e] at h; cases h
  | some k =>
    rw [e] at h
    have h : l[k]? = some s := h
    show (l.map g)[k]? = some (g s)
    rw [List.getElem?_map, h]
    rfl
theorem okB_g {a : Option Int} (h : okB a) : okB (some (a.getD 0)) := fun j e => by
  cases e
  cases a with
  | none => decide
  | some i => exact h i rfl
theorem okB_w {w : Int} {o : Option Int} (h : inW w o) (hw : w ≤ 30) : okB o := fun j e => by
  have := h j e
  omega
theorem okB_n : okB none := fun i e => by cases e
theorem okB_i {i : Int} (h : -30 ≤ i ∧ i ≤ 30) : okB (some i) := fun j e => by cases e; exact h
theorem sEq_dO (o : Option Int) : sEq (dO o) (dO o) = some true := by
  cases o with
  | none => rfl
  | some i =>
    show some (decide (i = i)) = some true
    simp
theorem dCh_cat {c d : List Sl} : List.map dS c ++ List.map dS d = List.map dS (c ++ d) := (List.map_append ..).symm
/-- one slice of a chain is another -/
theorem okC_put {c : List Sl} (h : okC c) {i : Nat} (hi : i < c.length) {o : Sl} (ho : okS o) : okC (c.take i ++ [o] ++ c.drop (i + 1)) := by
  refine ⟨by simp only [List.length_append, List.length_singleton, List.length_take, List.length_drop]; have := h.1; omega, fun z hz => ?_⟩
  simp only [List.mem_append, List.mem_singleton] at hz
  rcases hz with (hz | hz) | hz
  · exact h.2 z (List.mem_of_mem_take hz)
  · rw [hz]; exact ho
  · exact h.2 z (List.mem_of_mem_drop hz)
/-- a comprehension over what is told by its parts, with a test -/
theorem comp_filA2 {α : Type} {G : TG2} {Tt : TT2} {Te : TE2} {p : Addr} {ds : Ds} {Q : QE} (enc : α → Dt) (f : α → Bool) (g : α → Dt) : ∀ (l : List α) (acc : List Dt) (S : Cells), acc.length + l.length < 100000 →
    (∀ a, a ∈ l → ∀ (S : Cells) (R1 : QE) (R2 : Cells → Prop), (f a = true → R1 (g a) S) → (f a = false → R2 S) → G (enc a) ds S fun ds2 S2 => Tt x0 ds2 S2 fun k S3 => if k = true then Te x0 ds2 S3 R1 else R2 S3) →
    ((∀ c, Q (.lst (acc ++ (l.filter f).map g)) ((S.put p c).del p)) ∨ Q (.ref p) (S.put p (.lst (acc ++ (l.filter f).map g)))) → dComp G Tt Te p ds Q (l.map enc) acc (S.put p (.lst acc))
  | [], acc, S, _, h, q => ⟨Cells.put_same, by
    rcases q with q | q
    · exact .inl (by simpa using q _)
    · exact .inr (by simpa using q)⟩
  | d :: r, acc, S, hl, h, q => by
    have hl' : acc.length + (r.length + 1) < 100000 := hl
    refine h d List.mem_cons_self _ (fun y S4 => S4 p = some (.lst acc) ∧ acc.length < 100000 ∧ dComp G Tt Te p ds Q (r.map enc) (acc ++ [y]) (S4.put p (.lst (acc ++ [y])))) (fun S3 => dComp G Tt Te p ds Q (r.map enc) acc S3) (fun k => ⟨Cells.put_same, by omega, ?_⟩) (fun k => ?_)
    · rw [Cells.put_put]
      refine comp_filA2 enc f g r (acc ++ [g d]) S (by rw [List.length_append, List.length_singleton]; omega) (fun e he => h e (List.mem_cons_of_mem _ he)) ?_
      rw [List.filter_cons_of_pos k] at q
      rcases q with q | q
      · exact .inl (by simpa using q)
      · exact .inr (by simpa using q)
    · refine comp_filA2 enc f g r acc S (by omega) (fun e he => h e (List.mem_cons_of_mem _ he)) ?_
      rw [List.filter_cons_of_neg (by rw [k]; decide)] at q
      exact q
theorem comp_filE {α : Type} {G : TG2} {Tt : TT2} {Te : TE2} {ds : Ds} {S : Cells} {Q : QE} {l : List α} (enc : α → Dt) (f : α → Bool) (g : α → Dt) (hl : l.length < 100000)
    (h : ∀ a, a ∈ l → ∀ (S : Cells) (R1 : QE) (R2 : Cells → Prop), (f a = true → R1 (g a) S) → (f a = false → R2 S) → G (enc a) ds S fun ds2 S2 => Tt x0 ds2 S2 fun k S3 => if k = true then Te x0 ds2 S3 R1 else R2 S3)
    (q : newL ((l.filter f).map g) S Q) : ∀ p, S p = none → dComp G Tt Te p ds Q (l.map enc) [] (S.put p (.lst [])) := fun p hp => by
  refine comp_filA2 enc f g l [] S (by simpa using hl) h ?_
  rcases q with q | q
  · refine .inl fun c => ?_
    rw [del_put hp]
    simpa using q
  · exact .inr (by simpa using q p hp)
theorem comp_mapE {α : Type} {G : TG2} {Te : TE2} {ds : Ds} {S : Cells} {Q : QE} {l : List α} (enc : α → Dt) (g : α → Dt) (hl : l.length < 100000)
    (h : ∀ a, a ∈ l → ∀ (S : Cells) (R : QE), R (g a) S → G (enc a) ds S fun ds2 S2 => Te x0 ds2 S2 R)
    (q : newL (l.map g) S Q) : ∀ p, S p = none → dComp G dYes Te p ds Q (l.map enc) [] (S.put p (.lst [])) :=
  comp_filE enc (fun _ => true) g hl (fun a ha S R1 R2 y _ => h a ha S (fun d S3 => if true = true then R1 d S3 else R2 S3) (y rfl)) (by rw [List.filter_eq_self.mpr (fun _ _ => rfl)]; exact q)
/-- a store that grew from S, the list at p still to be told -/
structure Grow (S : Cells) (p : Addr) (S' : Cells) : Prop where
  use : ∀ (Q : QE) (d : Dt) (c : Cell), Fg Q → Q d (S.put p c) → Q d (S'.put p c)
theorem Grow.base {S : Cells} {p : Addr} {c : Cell} : Grow S p (S.put p c) := ⟨fun Q d c' _ q => by rw [Cells.put_put]; exact q⟩
theorem Grow.put {S S' : Cells} {p : Addr} {c : Cell} (h : Grow S p S') : Grow S p (S'.put p c) := ⟨fun Q d c' f q => by rw [Cells.put_put]; exact h.use Q d c' f q⟩
theorem Grow.fresh {S S' : Cells} {p q : Addr} {c : Cell} (h : Grow S p S') (hq : S' q = none) (ne : q ≠ p) : Grow S p (S'.put q c) := ⟨fun Q d c' f z => by
  rw [put_comm ne]
  exact f _ _ _ _ (by rw [Cells.put_ne ne]; exact hq) (h.use Q d c' f z)⟩
theorem newL.fin {l : List Dt} {S : Cells} {Q : QE} {r : Addr} (frg : Frg Q) (hr : S r = none) (q : newL l S Q) : Q (.ref r) (S.put r (.lst l)) := q.elim (frg.fz S r l hr) (fun q => q r hr)
theorem at_last {l : List Dt} {d : Dt} : atI (l ++ [d]) (-1) = some d := by
  have e : ixN (l ++ [d]).length (-1) = some l.length := by
    unfold ixN
    rw [List.length_append, List.length_singleton, if_neg (by decide)]
    first
      | (rw [if_pos (by omega)]; congr 1; omega)
      | (simp; omega)
      | simp
  unfold atI
  rw [e]
  show (l ++ [d])[l.length]? = some d
  simp
end Sc

/-! from two periods on: two agreements in a row are enough, and a far one is enough -/
namespace Sm
/-- two in a row, two periods behind the threshold, say all -/
theorem lin_agree2 {T P : Int} {F G : Int → Pg} (hF : Lin T P F) (hG : Lin T P G) (hP : 0 < P) {n : Int} (hn : T + 2 * P ≤ n) (h0 : cleaned (F n) = cleaned (G n)) (h1 : cleaned (F (n + P)) = cleaned (G (n + P))) :
    ∀ k : Int, 0 ≤ k → cleaned (F (n + k * P)) = cleaned (G (n + k * P)) := by
  obtain ⟨f, s, q, A, B, hq, hB, kF⟩ := hF (n - 2 * P) (by omega)
  obtain ⟨f', s', q', A', B', hq', hB', kG⟩ := hG (n - 2 * P) (by omega)
  have e : ∀ k : Int, n - 2 * P + (k + 2) * P = n + k * P := fun k => by rw [Int.add_mul]; omega
  have jF : ∀ k : Int, 0 ≤ k → F (n + k * P) = (f + (k + 2) * A, s, q + (k + 2) * B) := fun k hk => by rw [← e k, kF (k + 2) (by omega)]
  have jG : ∀ k : Int, 0 ≤ k → G (n + k * P) = (f' + (k + 2) * A', s', q' + (k + 2) * B') := fun k hk => by rw [← e k, kG (k + 2) (by omega)]
  have a0 := jF 0 (Int.le_refl _)
  have a1 := jF 1 (by decide)
  have b0 := jG 0 (Int.le_refl _)
  have b1 := jG 1 (by decide)
  simp only [Int.zero_mul, Int.add_zero, Int.one_mul, Int.zero_add] at a0 a1 b0 b1
  rw [a0, b0] at h0
  rw [a1, b1] at h1
  unfold cleaned at h0 h1
  simp only [Prod.mk.injEq] at h0 h1
  obtain ⟨x0, y0, z0⟩ := h0
  obtain ⟨x1, y1, z1⟩ := h1
  have e3 : (1 + 2 : Int) = 3 := by decide
  rw [e3] at z1 x1 y1
  have eB : B = B' := by omega
  subst eB
  have eq : q = q' := by omega
  subst eq
  intro k hk
  rw [jF k hk, jG k hk]
  unfold cleaned
  simp only [Prod.mk.injEq, and_true]
  by_cases hB0 : B = 0
  · subst hB0
    simp only [Int.mul_zero, Int.add_zero] at *
    by_cases g0 : q > 0
    · simp only [if_pos g0, Option.some.injEq] at x0 x1 ⊢
      have eA : A = A' := by omega
      subst eA
      exact ⟨by omega, y0⟩
    · have g1 : ¬ q > 1 := by omega
      simp only [if_neg g0, if_neg g1, and_self]
  · have g1 : q + 2 * B > 0 := by omega
    have g2 : q + 2 * B > 1 := by omega
    have g3 : q + 3 * B > 0 := by omega
    simp only [if_pos g1, Option.some.injEq] at x0
    simp only [if_pos g3, Option.some.injEq] at x1
    simp only [if_pos g2, Option.some.injEq] at y0
    have eA : A = A' := by omega
    have ef : f = f' := by omega
    subst eA ef y0
    exact ⟨rfl, rfl⟩
/-- the threshold, sharper -/
theorem wts_sharp : ∀ (c : List Sl) (p : Int × Int), (∀ s, s ∈ c → okS s) → 0 < p.2 → 2 * (wts c p).1 ≤ 2 * p.1 + 61 * p.2 * (3 ^ c.length - 1)
  | [], p, _, _ => by simp [wts]
  | s :: c, p, h, h3 => by
    have hs := h s List.mem_cons_self
    have b1 := absB_le hs.1
    have b2 := absB_le hs.2.1
    have n1 : 1 ≤ (s.2.2.natAbs : Int) ∧ (s.2.2.natAbs : Int) ≤ 3 := by
      obtain ⟨_, _, x, y, z⟩ := hs
      omega
    have e : wts (s :: c) p = wts c (p.1 + p.2 * (1 + absB s.1 + absB s.2.1), p.2 * (s.2.2.natAbs : Int)) := rfl
    rw [e]
    have k2 : 0 < p.2 * (s.2.2.natAbs : Int) := Int.mul_pos h3 (by omega)
    have z := wts_sharp c (p.1 + p.2 * (1 + absB s.1 + absB s.2.1), p.2 * (s.2.2.natAbs : Int)) (fun s hs => h s (List.mem_cons_of_mem _ hs)) k2
    refine Int.le_trans z ?_
    show 2 * (p.1 + p.2 * (1 + absB s.1 + absB s.2.1)) + 61 * (p.2 * (s.2.2.natAbs : Int)) * (3 ^ c.length - 1) ≤ 2 * p.1 + 61 * p.2 * (3 ^ (c.length + 1) - 1)
    have p3 : (1 : Int) ≤ 3 ^ c.length := by
      have : (0 : Int) < 3 ^ c.length := Int.pow_pos (by decide)
      omega
    have u1 : p.2 * (1 + absB s.1 + absB s.2.1) ≤ p.2 * 61 := Int.mul_le_mul_of_nonneg_left (by omega) (by omega)
    have u2 : p.2 * (s.2.2.natAbs : Int) ≤ p.2 * 3 := Int.mul_le_mul_of_nonneg_left n1.2 (by omega)
    obtain ⟨t, ht⟩ : ∃ t : Int, t = 3 ^ c.length := ⟨_, rfl⟩
    rw [Int.pow_succ, ← ht]
    rw [← ht] at p3
    have u3 : 61 * (p.2 * (s.2.2.natAbs : Int)) * (t - 1) ≤ 61 * (p.2 * 3) * (t - 1) := Int.mul_le_mul_of_nonneg_right (by omega) (by omega)
    have u4 : 61 * (p.2 * 3) * (t - 1) = 61 * p.2 * (t * 3) - 61 * p.2 * 3 := by
      rw [Int.mul_sub, Int.mul_one]
      congr 1
      · simp only [Int.mul_assoc, Int.mul_comm, Int.mul_left_comm]
      · simp only [Int.mul_assoc]
    have u5 : 61 * p.2 * (t * 3 - 1) = 61 * p.2 * (t * 3) - 61 * p.2 := by rw [Int.mul_sub, Int.mul_one]
    rw [u5]
    omega
theorem thr_le2 {c : List Sl} (h : okC c) : thr c ≤ 2440 := by
  have z := wts_sharp c (0, 1) h.2 (by decide)
  have p := pow3_le h.1
  have e : (wts c (0, 1)).1 = thr c := rfl
  rw [e] at z
  have z : 2 * thr c ≤ 2 * 0 + 61 * 1 * (3 ^ c.length - 1) := z
  omega
/-- both, in steps of the common period, with their slopes -/
def Lin3 (T P w : Int) (F : Int → Pg) : Prop := ∀ n, T ≤ n → ∃ f s q m g x : Int, 0 ≤ q ∧ 0 < x ∧ P = x * w ∧ (g = 0 ∨ g = 1) ∧ (m = 0 ∨ m = 1) ∧ ((s = w ∧ (g = 1 → m = 0)) ∨ (s = -w ∧ (g = 1 → m = 1))) ∧ ∀ k : Int, 0 ≤ k → F (n + k * P) = (f + k * (m * P), s, q + k * (x * g))
theorem lin3_of {T P w x : Int} {F : Int → Pg} (h : Lin2 T w F) (hx : 0 < x) (e : P = x * w) : Lin3 T P w F := fun n hn => by
  obtain ⟨f, s, q, m, g, hq, hg, hm, hs, k⟩ := h n hn
  refine ⟨f, s, q, m, g, x, hq, hx, e, hg, hm, hs, fun i hi => ?_⟩
  rw [e, ← Int.mul_assoc, k (i * x) (Int.mul_nonneg hi (by omega)), Int.mul_assoc, Int.mul_assoc]
  congr 2
  congr 1
  rw [Int.mul_left_comm]
theorem lin3_both {c d : List Sl} (hc : okC c) (hd : okC d) : Lin3 (lastT c d) (bothP c d) (per c) (shown c) ∧ Lin3 (lastT c d) (bothP c d) (per d) (shown d) := by
  have p1 := per_pos hc
  have p2 := per_pos hd
  have pos := bothP_pos hc hd
  obtain ⟨x, hx⟩ := Nat.dvd_lcm_left (per c).natAbs (per d).natAbs
  obtain ⟨y, hy⟩ := Nat.dvd_lcm_right (per c).natAbs (per d).natAbs
  have e1 : bothP c d = (x : Int) * per c := by
    unfold bothP lcmI
    rw [hx, Int.natCast_mul, Int.mul_comm, Int.natAbs_of_nonneg (by omega)]
  have e2 : bothP c d = (y : Int) * per d := by
    unfold bothP lcmI
    rw [hy, Int.natCast_mul, Int.mul_comm, Int.natAbs_of_nonneg (by omega)]
  have x0 : 0 < (x : Int) := by
    by_cases h : (x : Int) = 0
    · rw [e1, h, Int.zero_mul] at pos
      omega
    · omega
  have y0 : 0 < (y : Int) := by
    by_cases h : (y : Int) = 0
    · rw [e2, h, Int.zero_mul] at pos
      omega
    · omega
  refine ⟨fun n hn => lin3_of (lin2_shown hc) x0 e1 n (by unfold lastT at hn; omega), fun n hn => lin3_of (lin2_shown hd) y0 e2 n (by unfold lastT at hn; omega)⟩
theorem wts_dvd : ∀ (c : List Sl) (p : Int × Int), (∀ s, s ∈ c → okS s) → (wts c p).2 ∣ p.2 * 6 ^ c.length
  | [], p, _ => by simp [wts]
  | s :: c, p, h => by
    have hs := h s List.mem_cons_self
    have n1 : (s.2.2.natAbs : Int) ∣ 6 := by
      obtain ⟨_, _, x, y, z⟩ := hs
      have : s.2.2.natAbs = 1 ∨ s.2.2.natAbs = 2 ∨ s.2.2.natAbs = 3 := by omega
      rcases this with e | e | e <;> rw [e] <;> decide
    have e : wts (s :: c) p = wts c (p.1 + p.2 * (1 + absB s.1 + absB s.2.1), p.2 * (s.2.2.natAbs : Int)) := rfl
    rw [e]
    refine Int.dvd_trans (wts_dvd c _ (fun s hs => h s (List.mem_cons_of_mem _ hs))) ?_
    show p.2 * (s.2.2.natAbs : Int) * 6 ^ c.length ∣ p.2 * 6 ^ (c.length + 1)
    rw [Int.pow_succ, Int.mul_assoc, Int.mul_comm (6 ^ c.length) 6]
    exact Int.mul_dvd_mul_left _ (Int.mul_dvd_mul_right _ n1)
theorem per_dvd {c : List Sl} (h : okC c) : per c ∣ 1296 := by
  have z := wts_dvd c (0, 1) h.2
  have e : (wts c (0, 1)).2 = per c := rfl
  rw [e] at z
  have z : per c ∣ 1 * 6 ^ c.length := z
  rw [Int.one_mul] at z
  have h4 := h.1
  have : c.length = 0 ∨ c.length = 1 ∨ c.length = 2 ∨ c.length = 3 ∨ c.length = 4 := by omega
  rcases this with e | e | e | e | e <;> rw [e] at z <;> exact Int.dvd_trans z (by decide)
theorem bothP_le {c d : List Sl} (hc : okC c) (hd : okC d) : bothP c d ≤ 1296 := by
  have h1 : (per c).natAbs ∣ 1296 := Int.natAbs_dvd_natAbs.mpr (per_dvd hc)
  have h2 : (per d).natAbs ∣ 1296 := Int.natAbs_dvd_natAbs.mpr (per_dvd hd)
  have := Nat.le_of_dvd (by decide) (Nat.lcm_dvd h1 h2)
  unfold bothP lcmI
  omega
theorem first_in {c : List Sl} (hc : okC c) {n : Int} (hn : 0 ≤ n) (h : 0 < (shown c n).2.2) : 0 ≤ (shown c n).1 ∧ (shown c n).1 < n := by
  have z := shown_place c n 0 hc.2 hn (Int.le_refl _) h
  rw [Int.mul_zero, Int.add_zero] at z
  exact z
/-- a far agreement: the whole class agrees -/
theorem far_agree {c d : List Sl} (hc : okC c) (hd : okC d) {n k : Int} (hn : lastT c d ≤ n) (hn2 : n < lastT c d + 3 * bothP c d) (hk : 0 ≤ k) (hf : 1000000 ≤ n + k * bothP c d) (h : clean c (n + k * bothP c d) = clean d (n + k * bothP c d)) :
    ∀ j : Int, 0 ≤ j → clean c (n + j * bothP c d) = clean d (n + j * bothP c d) := by
  have T1 : 0 ≤ lastT c d ∧ lastT c d ≤ 2440 := by
    have := thr_nn hc
    have := thr_le2 hc
    have := thr_le2 hd
    unfold lastT
    omega
  have P0 := bothP_pos hc hd
  have P1 := bothP_le hc hd
  have w0 := per_pos hc
  have w1 := per_le hc
  have v0 := per_pos hd
  have v1 := per_le hd
  have n0 : 0 ≤ n := by omega
  have cn := shownF_count c (0, 1, n) hc.2 n0
  have dn := shownF_count d (0, 1, n) hd.2 n0
  have cf := first_in hc n0
  have df := first_in hd n0
  obtain ⟨l1, l2⟩ := lin3_both hc hd
  obtain ⟨f, s, q, m, g, x, hq, hx, ex, hg, hm, hs, kF⟩ := l1 n hn
  obtain ⟨f', s', q', m', g', x', hq', hx', ex', hg', hm', hs', kG⟩ := l2 n hn
  have a0 := kF 0 (Int.le_refl _)
  have b0 := kG 0 (Int.le_refl _)
  simp only [Int.zero_mul, Int.add_zero] at a0 b0
  have cn : (shown c n).2.2 ≤ n := cn.2
  have dn : (shown d n).2.2 ≤ n := dn.2
  rw [a0] at cn cf
  rw [b0] at dn df
  have cn : q ≤ n := cn
  have dn : q' ≤ n := dn
  have cf : 0 < q → 0 ≤ f ∧ f < n := cf
  have df : 0 < q' → 0 ≤ f' ∧ f' < n := df
  obtain ⟨P, eP⟩ : ∃ P, bothP c d = P := ⟨_, rfl⟩
  rw [eP] at hn2 hf h ex ex' kF kG P0 P1 ⊢
  have big : 993672 ≤ k * P := by omega
  have kx : 12267 ≤ k * x := by
    rw [ex, ← Int.mul_assoc] at big
    have : k * x * per c ≤ k * x * 81 := Int.mul_le_mul_of_nonneg_left w1 (Int.mul_nonneg hk (by omega))
    omega
  have kx' : 12267 ≤ k * x' := by
    rw [ex', ← Int.mul_assoc] at big
    have : k * x' * per d ≤ k * x' * 81 := Int.mul_le_mul_of_nonneg_left v1 (Int.mul_nonneg hk (by omega))
    omega
  intro j hj
  have h : cleaned (shown c (n + k * P)) = cleaned (shown d (n + k * P)) := h
  show cleaned (shown c (n + j * P)) = cleaned (shown d (n + j * P))
  rw [kF k hk, kG k hk] at h
  rw [kF j hj, kG j hj]
  unfold cleaned at h ⊢
  simp only [Prod.mk.injEq] at h ⊢
  obtain ⟨h1, h2, h3⟩ := h
  rcases hg with rfl | rfl <;> rcases hg' with rfl | rfl
  · simp only [Int.mul_zero, Int.add_zero] at *
    subst h3
    by_cases q0 : q > 0
    · simp only [if_pos q0, Option.some.injEq] at h1 ⊢
      have c1 := cf q0
      have c2 := df q0
      have em : m = m' := by
        rcases hm with rfl | rfl <;> rcases hm' with rfl | rfl
        · rfl
        · exfalso
          simp only [Int.zero_mul, Int.one_mul, Int.mul_zero] at h1
          omega
        · exfalso
          simp only [Int.zero_mul, Int.one_mul, Int.mul_zero] at h1
          omega
        · rfl
      subst em
      exact ⟨by omega, h2, trivial⟩
    · have q1 : ¬ q > 1 := by omega
      simp only [if_neg q0, if_neg q1, and_self]
  · simp only [Int.mul_zero, Int.add_zero, Int.mul_one] at h3
    omega
  · simp only [Int.mul_zero, Int.add_zero, Int.mul_one] at h3
    omega
  · simp only [Int.mul_one] at *
    have g1 : q + k * x > 0 := by omega
    have g2 : q + k * x > 1 := by omega
    have g3 : q' + k * x' > 0 := by omega
    have g4 : q' + k * x' > 1 := by omega
    simp only [if_pos g1, if_pos g3, Option.some.injEq] at h1
    simp only [if_pos g2, if_pos g4, Option.some.injEq] at h2
    have hm0 : (s = per c ∧ m = 0) ∨ (s = -per c ∧ m = 1) := by
      rcases hs with ⟨a, b⟩ | ⟨a, b⟩
      · exact .inl ⟨a, b trivial⟩
      · exact .inr ⟨a, b trivial⟩
    have hm1 : (s' = per d ∧ m' = 0) ∨ (s' = -per d ∧ m' = 1) := by
      rcases hs' with ⟨a, b⟩ | ⟨a, b⟩
      · exact .inl ⟨a, b trivial⟩
      · exact .inr ⟨a, b trivial⟩
    have wm : per c = per d ∧ m = m' := by
      rcases hm0 with ⟨a, b⟩ | ⟨a, b⟩ <;> rcases hm1 with ⟨a', b'⟩ | ⟨a', b'⟩ <;> omega
    have exx : x = x' := by
      rw [ex'] at ex
      rw [wm.1] at ex
      exact (Int.eq_of_mul_eq_mul_right (by omega) ex).symm
    have emm := wm.2
    subst exx emm h2
    have ef : f = f' := by omega
    have eq : q = q' := by omega
    subst ef eq
    exact ⟨rfl, rfl, rfl⟩
end Sm

namespace Sc
open PySem PySem.Spec PyProof.Rows L2 Sm
section
variable {X : Cx}
abbrev qModN : QO := qI (fun _ j => j ≠ 0) fun i j => .int (i.fmod j)
/-- list.index of a number -/
def qIndex : Dt → List Dt → Cells → QE → Prop := fun d es S Q => ∃ (l : List Int) (k : Int) (j : Nat), asL S d = some (l.map Dt.int) ∧ es = [.int k] ∧ l[j]? = some k ∧ (∀ m, m < j → l[m]? ≠ some k) ∧ Q (.int (j : Int)) S
theorem m_index : M2 X "list" "list.index" qIndex := ⟨fun d es S Q Q' hq ⟨l, k, j, h1, h2, h3, h4, q⟩ => ⟨l, k, j, h1, h2, h3, h4, hq _ _ q⟩, _, mt_index, fun d es v us S H Q w r rs ⟨l, k, j, h1, h2, h3, h4, q⟩ => by
  subst h2
  obtain ⟨a, xs, e1, k1, k2⟩ := asL_ok w r h1
  subst e1
  obtain ⟨u, e2, r2⟩ := rps1 rs
  cases (show u = _ from r2)
  have ex := k2.ints
  subst ex
  refine ⟨a, l.map V.int, .int k, j, .int k, rfl, e2, k1, rfl, ?_, ?_, ?_, ?_, q _ H ⟨Same.refl _, w⟩ rfl⟩
  · rw [List.all_map]
    exact List.all_eq_true.mpr fun _ _ => rfl
  · rw [List.getElem?_map, h3]
    rfl
  · show (k == k) = true
    simp
  · intro m z' hm hz
    rw [List.getElem?_map] at hz
    cases e : l[m]? with
    | none => rw [e] at hz; cases hz
    | some y =>
      rw [e] at hz
      cases hz
      show (y == k) = false
      have := h4 m hm
      rw [e] at this
      simpa using this⟩
/-- list.pop(i) -/
def qPopAt : Dt → List Dt → Cells → QE → Prop := fun d es S Q => ∃ a ds i z, d = .ref a ∧ es = [.int i] ∧ S a = some (.lst ds) ∧ 0 ≤ i ∧ i < ds.length ∧ ds.length ≤ 100000 ∧ ds[i.toNat]? = some z ∧ Q z (S.put a (.lst (ds.eraseIdx i.toNat)))
theorem Rps.erase {K : PySem.W.Frag} {I : Hp} : ∀ {ds : List Dt} {xs : List V} (n : Nat), Rps K I ds xs → Rps K I (ds.eraseIdx n) (xs.eraseIdx n)
  | [], _, n, h => by cases (show _ = _ from h); exact rfl
  | d :: ds, _, 0, ⟨v, vs, e1, h1, h2⟩ => by subst e1; exact h2
  | d :: ds, _, n + 1, ⟨v, vs, e1, h1, h2⟩ => by
    subst e1
    exact ⟨v, vs.eraseIdx n, rfl, h1, Rps.erase n h2⟩
theorem m_popAt : M2 X "list" "list.pop" qPopAt := ⟨fun d es S Q Q' hq ⟨a, ds, i, z, h1, h2, h3, h4, h5, h6, h7, q⟩ => ⟨a, ds, i, z, h1, h2, h3, h4, h5, h6, h7, hq _ _ q⟩, _, mt_popAt, fun d es v us S H Q w r rs ⟨a, ds, i, z, h1, h2, h3, h4, h5, h6, h7, q⟩ => by
  subst h1 h2
  obtain ⟨u, e1, r1⟩ := rps1 rs
  cases (show u = _ from r1)
  obtain ⟨xs, k1, k2⟩ := w a _ h3
  have hS : S a ≠ none ∨ H a = none := .inl (by rw [h3]; intro z; cases z)
  have hl := k2.length
  obtain ⟨y, g1, g2⟩ := k2.get h7
  have hwo := put_wo (H := H) (o := .lst (xs.eraseIdx i.toNat)) (.lst (ds.eraseIdx i.toNat)) hS
  have hk : seqIndex? i xs.length = some i.toNat := by
    have e : ixN xs.length i = some i.toNat := by
      unfold ixN
      rw [if_pos h4, if_pos (by rw [hl]; exact h5)]
    exact (ixN_seq e).1
  refine ⟨a, xs, i, i.toNat, y, r, e1, k1, by omega, by omega, hk, g1, q _ _ ⟨?_, put_wd w hS ⟨_, upd_same, k2.erase _⟩⟩ ?_⟩
  · rw [hwo]
    exact Same.refl _
  · rw [hwo]
    exact g2⟩
end
end Sc

/-! the number of a place -/
namespace Sm
theorem shownF_step : ∀ (c : List Sl) (p : Pg), (∀ s, s ∈ c → okS s) → p.2.1 ≠ 0 → (shownF c p).2.1 ≠ 0 ∧ (shownF c p).2.1.natAbs ≤ p.2.1.natAbs * 3 ^ c.length
  | [], p, _, h => ⟨h, by simp [shownF]⟩
  | s :: c, p, hc, h => by
    have hs := (hc s List.mem_cons_self).2.2
    have z := shownF_step c (applied s p) (fun s hs => hc s (List.mem_cons_of_mem _ hs)) (by show p.2.1 * s.2.2 ≠ 0; exact Int.mul_ne_zero h hs.2.2)
    rw [shownF_cons]
    refine ⟨z.1, Nat.le_trans z.2 ?_⟩
    show (p.2.1 * s.2.2).natAbs * 3 ^ c.length ≤ p.2.1.natAbs * 3 ^ (c.length + 1)
    rw [Int.natAbs_mul, Nat.pow_succ, Nat.mul_assoc, Nat.mul_comm (3 ^ c.length) 3]
    exact Nat.mul_le_mul_left _ (Nat.mul_le_mul_right _ (by omega))
theorem shown_step {c : List Sl} (hc : okC c) (n : Int) : (shown c n).2.1 ≠ 0 ∧ -81 ≤ (shown c n).2.1 ∧ (shown c n).2.1 ≤ 81 := by
  have z := shownF_step c (0, 1, n) hc.2 (by show (1 : Int) ≠ 0; decide)
  have h4 := hc.1
  have e : shownF c (0, 1, n) = shown c n := rfl
  rw [e] at z
  have p : 3 ^ c.length ≤ 81 := by
    have : c.length = 0 ∨ c.length = 1 ∨ c.length = 2 ∨ c.length = 3 ∨ c.length = 4 := by omega
    rcases this with e | e | e | e | e <;> rw [e] <;> decide
  have z2 : (shown c n).2.1.natAbs ≤ 1 * 3 ^ c.length := z.2
  refine ⟨z.1, ?_, ?_⟩ <;> omega
def numF (p : Pg) (v : Int) : Option Int := if (0 ≤ (v - p.1).fdiv p.2.1 ∧ (v - p.1).fdiv p.2.1 < p.2.2) ∧ p.1 + p.2.1 * (v - p.1).fdiv p.2.1 = v then some ((v - p.1).fdiv p.2.1) else none
theorem numF_some {p : Pg} {v k : Int} (h : numF p v = some k) : 0 ≤ k ∧ k < p.2.2 ∧ p.1 + p.2.1 * k = v := by
  unfold numF at h
  split at h
  · rename_i g
    cases h
    exact ⟨g.1.1, g.1.2, g.2⟩
  · cases h
theorem numF_of {p : Pg} {v k : Int} (hs : p.2.1 ≠ 0) (h0 : 0 ≤ k) (h1 : k < p.2.2) (h : p.1 + p.2.1 * k = v) : numF p v = some k := by
  have e : (v - p.1).fdiv p.2.1 = k := by
    rw [← h, show p.1 + p.2.1 * k - p.1 = p.2.1 * k by omega]
    exact Int.mul_fdiv_cancel_left _ hs
  unfold numF
  rw [e, if_pos ⟨⟨h0, h1⟩, h⟩]
theorem numF_none {p : Pg} {v : Int} (hs : p.2.1 ≠ 0) (h : numF p v = none) {k : Int} (h0 : 0 ≤ k) (h1 : k < p.2.2) : p.1 + p.2.1 * k ≠ v := fun e => by
  rw [numF_of hs h0 h1 e] at h
  cases h
theorem plc_mem {p : Pg} {v : Int} : v ∈ plc p ↔ ∃ k : Int, 0 ≤ k ∧ k < p.2.2 ∧ p.1 + p.2.1 * k = v := by
  unfold plc
  rw [List.mem_map]
  constructor
  · rintro ⟨i, hi, e⟩
    have := List.mem_range.mp hi
    exact ⟨(i : Int), by omega, by omega, e⟩
  · rintro ⟨k, h0, h1, e⟩
    exact ⟨k.toNat, List.mem_range.mpr (by omega), by rw [Int.toNat_of_nonneg h0]; exact e⟩
theorem numF_mem {p : Pg} {v : Int} (hs : p.2.1 ≠ 0) : v ∈ plc p ↔ numF p v ≠ none := by
  rw [plc_mem]
  constructor
  · rintro ⟨k, h0, h1, e⟩ z
    exact numF_none hs z h0 h1 e
  · intro h
    cases e : numF p v with
    | none => exact absurd e h
    | some k => exact ⟨k, numF_some e⟩
/-- the first place of the list at which v stands -/
theorem numF_first {p : Pg} {v k : Int} (hs : p.2.1 ≠ 0) (h : numF p v = some k) : (plc p)[k.toNat]? = some v ∧ ∀ m, m < k.toNat → (plc p)[m]? ≠ some v := by
  obtain ⟨h0, h1, h2⟩ := numF_some h
  refine ⟨?_, fun m hm z => ?_⟩
  · rw [plc_get (by omega), Int.toNat_of_nonneg h0, h2]
  · rw [plc_get (by omega)] at z
    have z := Option.some.inj z
    have e : p.2.1 * (m : Int) = p.2.1 * k := by omega
    have := Int.eq_of_mul_eq_mul_left hs e
    omega
/-- between the first and the last place, at an even distance: one of the places -/
theorem between {f s c v : Int} (hs : s ≠ 0) (hc : 0 < c) (hm : (v - f).fmod s = 0) (h1 : min f (f + s * (c - 1)) ≤ v) (h2 : v ≤ max f (f + s * (c - 1))) : ∃ k, 0 ≤ k ∧ k < c ∧ f + s * k = v := by
  have hd : s ∣ v - f := Int.dvd_of_fmod_eq_zero hm
  obtain ⟨k, hk⟩ := hd
  refine ⟨k, ?_, ?_, by omega⟩
  · by_cases h : 0 ≤ k
    · exact h
    · exfalso
      by_cases h0 : 0 < s
      · have : s * (c - 1) ≥ 0 := Int.mul_nonneg (by omega) (by omega)
        have : s * k < 0 := Int.mul_neg_of_pos_of_neg h0 (by omega)
        omega
      · have : s * (c - 1) ≤ 0 := Int.mul_nonpos_of_nonpos_of_nonneg (by omega) (by omega)
        have : s * k > 0 := Int.mul_pos_of_neg_of_neg (by omega) (by omega)
        omega
  · by_cases h : k < c
    · exact h
    · exfalso
      by_cases h0 : 0 < s
      · have : s * (c - 1) ≥ 0 := Int.mul_nonneg (by omega) (by omega)
        have : s * (c - 1) < s * k := Int.mul_lt_mul_of_pos_left (by omega) h0
        omega
      · have : s * (c - 1) ≤ 0 := Int.mul_nonpos_of_nonpos_of_nonneg (by omega) (by omega)
        have : s * k < s * (c - 1) := Int.mul_lt_mul_of_neg_left (by omega) (by omega)
        omega
end Sm

/-! tuples of the module; t.index(x) -/
namespace Sc
open PySem PySem.Spec PyProof.Rows L2 Sm
/-- the module's name x is the tuple of these -/
def TupG (K : PySem.W.Frag) (mg : Str → Option Value) (x : Str) (ds : List Dt) : Prop := ∃ a, mg x = some (.ref a) ∧ (∀ I, Rp K I (.tup ds) (.ref a)) ∧ ∃ o, K.lookup a = some o ∧ o.cls = .type "tuple" ∧ o.dict = none
def tupN (K : PySem.W.Frag) (x : Str) : Bool := match K.lookup (He.ga K x) with
  | some ⟨.type c, none, _, _⟩ => decide (c = "tuple")
  | _ => false
theorem tupN_ok {K : PySem.W.Frag} {x : Str} (h : tupN K x = true) : ∃ o, K.lookup (He.ga K x) = some o ∧ o.cls = .type "tuple" ∧ o.dict = none := by
  unfold tupN at h
  cases q : K.lookup (He.ga K x) with
  | none =>
    rw [q] at h
    cases h
  | some o =>
    obtain ⟨oc, od, dt, osl⟩ := o
    rw [q] at h
    cases oc with
    | type c =>
      cases od with
      | none => exact ⟨_, rfl, congrArg Value.type (of_decide_eq_true h), rfl⟩
      | some d => cases h
    | _ => cases od <;> cases h
theorem rps_strs {K : PySem.W.Frag} {I : Hp} : ∀ ns : List Str, Rps K I (ns.map Dt.str) (ns.map V.str)
  | [] => rfl
  | n :: ns => ⟨_, _, rfl, rfl, rps_strs ns⟩
theorem TupG.strs {K : PySem.W.Frag} {mg : Str → Option Value} {x : Str} {ns : List Str} (hm : mg x = some (.ref (He.ga K x))) (h : (He.tupB K x (ns.map He.Dv.str) && tupN K x) = true) : TupG K mg x (ns.map Dt.str) := by
  obtain ⟨h, h2⟩ := He.ba h
  refine ⟨_, hm, fun I => ⟨_, ns.map V.str, rfl, ?_, rps_strs ns⟩, tupN_ok h2⟩
  have z := He.tupB_ok h I
  rw [List.map_map] at z
  exact z
theorem TupG.ints {K : PySem.W.Frag} {mg : Str → Option Value} {x : Str} {ns : List Int} (hm : mg x = some (.ref (He.ga K x))) (h : (He.tupB K x (ns.map He.Dv.int) && tupN K x) = true) : TupG K mg x (ns.map Dt.int) := by
  obtain ⟨h, h2⟩ := He.ba h
  refine ⟨_, hm, fun I => ⟨_, ns.map V.int, rfl, ?_, Rps.of_ints ns⟩, tupN_ok h2⟩
  have z := He.tupB_ok h I
  rw [List.map_map] at z
  exact z
section
variable {X : Cx} {W : WX} {e : Expr} {es : List Expr} {Te : TE2} {TA : TA2} {pos : Pos}
theorem e_globT {x : Str} {ds : List Dt} (hm : TupG X.K X.mg x ds) (hg : Gl X x := by rfl) (hd : (x == ("__debug__" : Str)) = false := by decide) : E2 X W (.Name x pos) (dC (.tup ds)) := ⟨fun _ _ _ _ _ h q => h _ _ q, by
  obtain ⟨a, hm, r, _⟩ := hm
  exact ⟨_, pe_glob (v := .ref a) hg hm rfl hd, fun x ds S σ H Q h q => q _ H h.refl (r _)⟩⟩
/-- t.index(x), t a tuple of the module, of strings -/
def dTIndex (ys : List Str) (Te : TE2) : TE2 := fun x ds S Q => Te x ds S fun d S1 => ∃ (k : Str) (j : Nat), d = .str k ∧ ys[j]? = some k ∧ (∀ m, m < j → ys[m]? ≠ some k) ∧ Q (.int (j : Int)) S1
theorem e_tindex {x : Str} {ys : List Str} {apos cpos p : Pos} (hm : TupG X.K X.mg x (ys.map Dt.str)) (ha : E2 X W e Te) (hg : Gl X x := by rfl) (hd : (x == ("__debug__" : Str)) = false := by decide)
    (hbase : attributeBase (.Name x p) "index" X.env (eval (.Name x p) X.env) = eval (.Name x p) X.env := by rfl)
    (hfew : ((backTo cpos (starEach [e] X.env)).all (fun x => !x.1) && (backToKw cpos (keywordEach [] X.env)).all (fun x => x.1.isSome)
      && decide ([e].length + ([] : List Keyword).length + (if ([] : List Keyword).isEmpty then 0 else 1) < 30)) = true := by rfl)
    (hline : (apos.endLine == cpos.line) = true := by rfl) (hs : starEach [e] X.env = (false, eval e X.env) :: starEach [] X.env := by rfl) (hplain : (backTo cpos (starEach [] X.env)).any (·.1) = false := by rfl) :
    E2 X W (.Call (.Attribute (.Name x p) "index" apos) [e] [] cpos) (dTIndex ys Te) := ⟨fun x ds S Q Q' h p => ha.mono x ds S _ _ (fun d S1 ⟨k, j, e, h1, h2, q⟩ => ⟨k, j, e, h1, h2, h _ _ q⟩) p, by
  obtain ⟨a, hm, r, o, ko, kc, kd⟩ := hm
  obtain ⟨t, pt, rt⟩ := ha.run
  refine ⟨_, pe_bm PySem.F.plainAttrs_tuple PySem.F.slot_tuple_index PySem.F.type_tuple_index mt_tup_index (pe_glob (v := .ref a) hg hm rfl hd) (pa_cons pt pa_nil hs) hbase hfew hline hs hplain, fun x ds S σ H Q h q => ?_⟩
  refine ⟨.inr (.inl ⟨rfl, o, ko, kc, kd⟩), ?_⟩
  refine rt x ds S σ H _ h (ha.mono x ds S _ _ (fun d S1 ⟨k, j, e, h1, h2, q⟩ v H1 s1 r1 => ?_) q)
  subst e
  cases (show v = _ from r1)
  obtain ⟨b, xs, e2, k1, k2⟩ := r (wo S1 H1)
  cases e2
  have ex := k2.strs
  subst ex
  exact ⟨a, ys, k, j, rfl, rfl, sqT_mono wo_le k1, h1, h2, q _ H1 s1 rfl⟩⟩
end
/-! ### what the head says, and one thing more -/
def obsE (n : Nat) (fa : List He.Fa) (fn : List He.DefD) (ex : PySem.W.Frag → Bool) (g : Addr → Option Obj) : He.AlD × Bool := (He.obsD fa fn (He.frG g (He.asD g n)), ex (He.frG g (He.asD g n)))
def hookE (n : Nat) (fa : List He.Fa) (fn : List He.DefD) (ex : PySem.W.Frag → Bool) : PySem.W.Hook where
  α := He.AlD × Bool
  obs := fun s => obsE n fa fn ex s.heap.get?
  val := fun _ => (He.valD fn, true)
  says := fun _ h => ∃ K : PySem.W.Frag, K.In h ∧ He.SaysD fa fn K ∧ ex K = true
  of := fun _ _ e => ⟨_, He.frG_in, congrArg (fun z : He.AlD × Bool => z.1) e, congrArg (fun z : He.AlD × Bool => z.2) e⟩
  keeps := fun _ _ _ ⟨K, hK, c⟩ k => ⟨K, PySem.W.Frag.In.keeps hK k, c⟩
theorem obsE_eq {n : Nat} {fa : List He.Fa} {fn : List He.DefD} {ex : PySem.W.Frag → Bool} {g : Addr → Option Obj} {s : Shared} (h : ∀ a, g a = s.heap.get? a) : obsE n fa fn ex g = (hookE n fa fn ex).obs s := by
  have e : g = s.heap.get? := funext h
  rw [e] <;> rfl
end Sc

namespace Sc
open PySem PySem.Spec PyProof.Rows L2 Sm
local macro_rules | `(tactic| walk_at "wp") => `(tactic| simp only [dRevT, dRevL, dEnumT, qRepA, qRepL, qCatL, qIn, qNotIn, dListR1, dListR2, dRet, dSeq, dIfS, dNext, dDrop, dSet, dAsg, dPar, dPar3, dAug, dVar, dC, dOp, dUn, dTest, dTru, dNot, dAnd, dOr, dAndV, dOrV, dNotV, dIf, dChain, dCall, dCons, dNil, dCB, dTup, dLst, dIsi, dStore, kSub, dYes, dFor, dIt, dItL, dRng1, dRng2, dSl, dNoP, dPart, dMt, dRaise,
  qI, qI0, qAdd, qSub, qMul, qFdiv, qFdivN, qMod, qPow, qLt, qLe, qGt, qGe, qEq, qNe, qIsN, qNotN, qIsB, qNotB, qNeg, qAbs, qMax2, qMin2, qLen, qIx, qTupOf, qLstOf, qSlT, qSlL, qCatT, qRepT, kName, kTup, kCons, kNil, start2, List.map_cons, List.map_nil, List.length_cons, List.length_nil, List.replicate, List.cons_append, List.nil_append, List.append_nil,
  List.getElem?_cons_zero, List.getElem?_cons_succ, List.set_cons_zero, List.set_cons_succ, Option.some.injEq, exists_eq_left', exists_eq_left, Dt.int.injEq, Dt.bl.injEq, Dt.ref.injEq, Dt.tup.injEq, Dt.lst.injEq, Nat.sub_zero, Nat.zero_add, Nat.reduceAdd, Nat.reduceSub, asQ_tup, asQ_lst, asL_lst, asT_tup, asQ_put, asL_put, exists_and_left, List.cons.injEq, and_true, isN_int, isN_non, truD_int, truD_non, at_0, at_1, at_2, ix20, ix21, Cells.put_same, Cells.put_put, Cell.lst.injEq, sEq_ii, sEq_bb, sEq_ss, sEq_nn, sEq_ni, sEq_in, true_and, decide_eq_true_eq, and_assoc])

/-! ### lengths from which two chains agree -/
def agB (c d : List Sl) (n : Int) : Bool := decide (clean c n = clean d n)
def agN (c d : List Sl) (r : Int) : Int := fstL (lastT c d + 2 * bothP c d) (bothP c d) r
def remF (c d : List Sl) : List Int := filI (fun r => agB c d (agN c d r) && agB c d (agN c d r + bothP c d)) (bothP c d).toNat
theorem agN_in {c d : List Sl} (hc : okC c) (hd : okC d) (r : Int) : lastT c d + 2 * bothP c d ≤ agN c d r ∧ agN c d r < lastT c d + 3 * bothP c d := by
  have := fstL_ge (T := lastT c d + 2 * bothP c d) (r := r) (bothP_pos hc hd)
  unfold agN
  omega
theorem lastT_in {c d : List Sl} (hc : okC c) (hd : okC d) : 0 ≤ lastT c d ∧ lastT c d ≤ 2440 := by
  have := thr_nn hc
  have := thr_le2 hc
  have := thr_le2 hd
  unfold lastT
  omega
/-- in a class of remainders that counts: agreement everywhere -/
theorem rem_all {c d : List Sl} (hc : okC c) (hd : okC d) {r : Int} (h : (agB c d (agN c d r) && agB c d (agN c d r + bothP c d)) = true) {k : Int} (hk : 0 ≤ k) : clean c (agN c d r + k * bothP c d) = clean d (agN c d r + k * bothP c d) := by
  obtain ⟨l1, l2⟩ := lin_both hc hd
  unfold agB at h
  rw [Bool.and_eq_true, decide_eq_true_eq, decide_eq_true_eq] at h
  exact lin_agree2 l1 l2 (bothP_pos hc hd) (agN_in hc hd r).1 h.1 h.2 k hk
/-- what equal_from tells -/
def EqFrom (c d : List Sl) : Option Int → Prop
  | none => ((remF c d).length : Int) < bothP c d
  | some n => ¬ ((remF c d).length : Int) < bothP c d ∧ 0 ≤ n ∧ n ≤ bnd c d ∧ (∀ k, n ≤ k → k < bnd c d → clean c k = clean d k) ∧ (n = 0 ∨ clean c (n - 1) ≠ clean d (n - 1))
def dAgr (c d : List Sl) : Dt := .tup [.int (bothP c d), .tup ((remF c d).map Dt.int)]
def sp_agreeing_remainders : Sp2 := psp (α := List Sl × List Sl) (fun a => [dCh a.1, dCh a.2]) (fun a => okC a.1 ∧ okC a.2) (fun a => dAgr a.1 a.2)
def sp_agreeing : Sp2 := psp (α := List Sl × List Sl) (fun a => [dCh a.1, dCh a.2]) (fun a => okC a.1 ∧ okC a.2) (fun a => dAgr a.1 a.2)
def sp_equal_from : Sp2 := rsp (α := List Sl × List Sl) (β := Option Int) (fun a => [dCh a.1, dCh a.2]) (fun a => okC a.1 ∧ okC a.2) (fun a o => EqFrom a.1 a.2 o) dO
def T_agreeing_remainders : TS2 :=
  (dSeq (dPar 2 3 (dCons (dCall sp_both_periods (dCons (dVar 0) (dCons (dVar 1) dNil))) (dCons (dLst dNil) dNil)))
  (dSeq (dFor (dRng1 (dVar 2)) (kName 4) (dSeq (dSet 5 (dCall sp_first_length (dCons (dOp qAdd (dCall sp_last_threshold (dCons (dVar 0) (dCons (dVar 1) dNil))) (dOp qMul (dC (.int 2)) (dVar 2))) (dCons (dVar 2) (dCons (dVar 4) dNil)))))
  (dIfS (dAnd (dTest (dCall sp_agree_at (dCons (dVar 0) (dCons (dVar 1) (dCons (dVar 5) dNil))))) (dTest (dCall sp_agree_at (dCons (dVar 0) (dCons (dVar 1) (dCons (dOp qAdd (dVar 5) (dVar 2)) dNil)))))) (dDrop (dMt qAppend (dVar 3) (dCons (dVar 4) dNil))) dNext)))
  (dRet (dTup (dCons (dVar 2) (dCons (dCB qTupOf (dCons (dVar 3) dNil)) dNil))))))
theorem pure_agreeing_remainders : Pure 6 sp_agreeing_remainders T_agreeing_remainders := by
  rintro ds S Q E frg ⟨⟨c, d⟩, rfl, ⟨hc, hd⟩, q⟩
  have hc : okC c := hc
  have hd : okC d := hd
  have P0 := bothP_pos hc hd
  have P1 := bothP_le hc hd
  have T0 := lastT_in hc hd
  have q : Q (dAgr c d) S := q
  unfold T_agreeing_remainders
  walk_at "wp"
  refine ⟨(c, d), rfl, ⟨hc, hd⟩, by decide, .inr fun p hp => ?_⟩
  walk_at "wp"
  refine ⟨by omega, by omega, ?_⟩
  refine loop_rng (fun i ds S2 => S2 = S.put p (.lst ((filI (fun r => agB c d (agN c d r) && agB c d (agN c d r + bothP c d)) i).map Dt.int)) ∧ ∃ x4 x5, ds = [some (dCh c), some (dCh d), some (.int (bothP c d)), some (.ref p), x4, x5]) ⟨rfl, _, _, rfl⟩ ?_ ?_
  · rintro i ds S2 N hi ⟨rfl, _, _, rfl⟩ hN
    walk_at "wp"
    rw [Int.zero_add]
    have z := agN_in hc hd (i : Int)
    refine ⟨(c, d), rfl, ⟨hc, hd⟩, .inl (by omega), _, rfl, (lastT c d + 2 * bothP c d, bothP c d, (i : Int)), rfl, P0, (c, d, agN c d (i : Int)), rfl, ⟨hc.2, hd.2, by show 0 ≤ agN c d (i : Int); omega, by show agN c d (i : Int) ≤ 10 ^ 18; omega⟩, _, rfl, ?_⟩
    have sc := filI_succ (f := fun r => agB c d (agN c d r) && agB c d (agN c d r + bothP c d)) (n := i)
    by_cases h1 : clean c (agN c d (i : Int)) = clean d (agN c d (i : Int))
    · refine iteP (by show decide (clean c (agN c d (i : Int)) = clean d (agN c d (i : Int))) = true; simpa using h1) ⟨_, rfl, (c, d, agN c d (i : Int) + bothP c d), rfl, ⟨hc.2, hd.2, by show 0 ≤ agN c d (i : Int) + bothP c d; omega, by show agN c d (i : Int) + bothP c d ≤ 10 ^ 18; omega⟩, _, rfl, ?_⟩
      by_cases h2 : clean c (agN c d (i : Int) + bothP c d) = clean d (agN c d (i : Int) + bothP c d)
      · refine iteP (by show decide (clean c (agN c d (i : Int) + bothP c d) = clean d (agN c d (i : Int) + bothP c d)) = true; simpa using h2) ⟨⟨_, asL_put⟩, p, _, _, rfl, rfl, Cells.put_same, by rw [List.length_map]; exact Nat.lt_of_le_of_lt filI_len (by omega), ?_⟩
        rw [Cells.put_put]
        refine hN _ _ ⟨?_, _, _, rfl⟩
        rw [sc, if_pos (by unfold agB; simp [h1, h2]), List.map_append]
        rfl
      · refine iteN (by show ¬ decide (clean c (agN c d (i : Int) + bothP c d) = clean d (agN c d (i : Int) + bothP c d)) = true; simpa using h2) (hN _ _ ⟨?_, _, _, rfl⟩)
        rw [sc, if_neg (by unfold agB; simp [h2]), List.append_nil]
    · refine iteN (by show ¬ decide (clean c (agN c d (i : Int)) = clean d (agN c d (i : Int))) = true; simpa using h1) (iteN (by decide) (hN _ _ ⟨?_, _, _, rfl⟩))
      rw [sc, if_neg (by unfold agB; simp [h1]), List.append_nil]
  · rintro ds S2 ⟨rfl, _, _, rfl⟩
    walk_at "wp"
    exact ⟨by decide, frg.fg _ _ _ _ hp q⟩
def T_agreeing : TS2 :=
  (dSeq (dDrop (dCall sp_require_both (dCons (dVar 0) (dCons (dVar 1) dNil))))
  (dRet (dCall sp_agreeing_remainders (dCons (dVar 0) (dCons (dVar 1) dNil)))))
theorem pure_agreeing : Pure 2 sp_agreeing T_agreeing := by
  rintro ds S Q E frg ⟨⟨c, d⟩, rfl, ⟨hc, hd⟩, q⟩
  unfold T_agreeing
  walk_at "wp"
  exact ⟨(c, d), rfl, ⟨hc, hd⟩, (c, d), rfl, ⟨hc, hd⟩, q⟩
def T_equal_from : TS2 :=
  (dSeq (dDrop (dCall sp_require_both (dCons (dVar 0) (dCons (dVar 1) dNil))))
  (dSeq (dAsg (dCall sp_agreeing_remainders (dCons (dVar 0) (dCons (dVar 1) dNil))) (kTup 2 (kCons (kName 2) (kCons (kName 3) kNil))))
  (dSeq (dIfS (dTest (dOp qLt (dCB qLen (dCons (dVar 3) dNil)) (dVar 2))) (dRet (dC .non)) dNext)
  (dSeq (dSet 4 (dCall sp_bound_for (dCons (dVar 0) (dCons (dVar 1) dNil))))
  (dSeq (dWhile (dAnd (dTest (dOp qGt (dVar 4) (dC (.int 0)))) (dTest (dCall sp_agree_at (dCons (dVar 0) (dCons (dVar 1) (dCons (dOp qSub (dVar 4) (dC (.int 1))) dNil)))))) (dAug 4 qSub (dC (.int 1))))
  (dRet (dVar 4)))))))
theorem pure_equal_from : Pure 5 sp_equal_from T_equal_from := by
  rintro ds S Q E frg ⟨⟨c, d⟩, rfl, ⟨hc, hd⟩, q⟩
  have hc : okC c := hc
  have hd : okC d := hd
  have P0 := bothP_pos hc hd
  have P1 := bothP_le hc hd
  have T0 := lastT_in hc hd
  have q : ∀ o : Option Int, EqFrom c d o → Q (dO o) S := q
  have eb : bnd c d = lastT c d + 3 * bothP c d := rfl
  unfold T_equal_from
  walk_at "wp"
  refine ⟨(c, d), rfl, ⟨hc, hd⟩, (c, d), rfl, ⟨hc, hd⟩, ?_⟩
  unfold dAgr
  walk_at "wp"
  refine ite2 (fun h => q none (by rw [List.length_map] at h; exact h)) (fun h => ⟨(c, d), rfl, ⟨hc, hd⟩, ?_⟩)
  rw [List.length_map] at h
  refine wh_inv (fun (n : Int) ds S2 => S2 = S ∧ 0 ≤ n ∧ n ≤ bnd c d ∧ (∀ k, n ≤ k → k < bnd c d → clean c k = clean d k) ∧ ds = [some (dCh c), some (dCh d), some (.int (bothP c d)), some (.tup ((remF c d).map Dt.int)), some (.int n)]) Int.toNat ?_ (a := bnd c d) ⟨rfl, by show 0 ≤ bnd c d; omega, Int.le_refl _, fun k a b => by omega, rfl⟩
  rintro n ds S2 N ⟨rfl, h0, h1, h2, rfl⟩ hN
  walk_at "wp"
  by_cases hn : 0 < n
  · refine iteP hn ⟨(c, d, n - 1), rfl, ⟨hc.2, hd.2, by show 0 ≤ n - 1; omega, by show n - 1 ≤ 10 ^ 18; omega⟩, _, rfl, ?_⟩
    by_cases ha : clean c (n - 1) = clean d (n - 1)
    · refine iteP (by show decide (clean c (n - 1) = clean d (n - 1)) = true; simpa using ha) (hN (n - 1) _ _ (by omega) ⟨rfl, by omega, by omega, fun k a b => ?_, rfl⟩)
      by_cases e : k = n - 1
      · rw [e]; exact ha
      · exact h2 k (by omega) b
    · exact iteN (by show ¬ decide (clean c (n - 1) = clean d (n - 1)) = true; simpa using ha) (q (some n) ⟨h, h0, h1, h2, .inr ha⟩)
  · exact iteN hn (iteN (by decide) (q (some n) ⟨h, h0, h1, h2, .inl (by omega)⟩))
end Sc

namespace Sc
open PySem PySem.Spec PyProof.Rows L2 Sm
local macro_rules | `(tactic| walk_at "wp") => `(tactic| simp only [dRevT, dRevL, dEnumT, qRepA, qRepL, qCatL, qIn, qNotIn, dListR1, dListR2, dRet, dSeq, dIfS, dNext, dDrop, dSet, dAsg, dPar, dPar3, dAug, dVar, dC, dOp, dUn, dTest, dTru, dNot, dAnd, dOr, dAndV, dOrV, dNotV, dIf, dChain, dCall, dCons, dNil, dCB, dTup, dLst, dIsi, dStore, kSub, dYes, dFor, dIt, dItL, dRng1, dRng2, dSl, dNoP, dPart, dMt, dRaise,
  qI, qI0, qAdd, qSub, qMul, qFdiv, qFdivN, qMod, qPow, qLt, qLe, qGt, qGe, qEq, qNe, qIsN, qNotN, qIsB, qNotB, qNeg, qAbs, qMax2, qMin2, qLen, qIx, qTupOf, qLstOf, qSlT, qSlL, qCatT, qRepT, kName, kTup, kCons, kNil, start2, List.map_cons, List.map_nil, List.length_cons, List.length_nil, List.replicate, List.cons_append, List.nil_append, List.append_nil,
  List.getElem?_cons_zero, List.getElem?_cons_succ, List.set_cons_zero, List.set_cons_succ, Option.some.injEq, exists_eq_left', exists_eq_left, Dt.int.injEq, Dt.bl.injEq, Dt.ref.injEq, Dt.tup.injEq, Dt.lst.injEq, Nat.sub_zero, Nat.zero_add, Nat.reduceAdd, Nat.reduceSub, asQ_tup, asQ_lst, asL_lst, asT_tup, asQ_put, asL_put, exists_and_left, List.cons.injEq, and_true, isN_int, isN_non, truD_int, truD_non, at_0, at_1, at_2, ix20, ix21, Cells.put_same, Cells.put_put, Cell.lst.injEq, sEq_ii, sEq_bb, sEq_ss, sEq_nn, sEq_ni, sEq_in, true_and, decide_eq_true_eq, and_assoc])

/-! ### kept places, as a list that may change -/
def sp_places_of2 : Sp2 := lsp (α := Pg) (fun a => [dPg a]) (fun a => 0 ≤ a.2.2 ∧ a.2.2 ≤ 1000) (fun a => (plc a).map Dt.int)
def sp_kept2 : Sp2 := lsp (α := List Sl × Int) (fun a => [dCh a.1, .int a.2]) (fun a => okC a.1 ∧ 0 ≤ a.2 ∧ a.2 ≤ 1000) (fun a => (plc (shown a.1 a.2)).map Dt.int)
theorem pure_places_of2 : Pure 5 sp_places_of2 T_places_of := by
  rintro ds S Q E frg ⟨⟨f, s, c⟩, rfl, ⟨h0, h1⟩, q⟩
  have h0 : 0 ≤ c := h0
  have h1 : c ≤ 1000 := h1
  unfold T_places_of dLc
  simp only [dPg_eq]
  walk_at "wp"
  refine ⟨by omega, by omega, ?_⟩
  refine comp_mapI (fun i => .int (f + s * i)) (by omega) (fun i hi S R r => ?_) ?_
  · walk_at "wp"
    rw [Int.zero_add]
    exact ⟨.inr ⟨by omega, by omega⟩, r⟩
  · have e : ((List.range c.toNat).map fun (i : Nat) => Dt.int (f + s * (i : Int))) = (plc (f, s, c)).map Dt.int := by
      unfold plc
      rw [List.map_map]
      rfl
    rw [e]
    exact q
def T_kept2 : TS2 :=
  (dSeq (dDrop (dCall sp_require_chain (dCons (dVar 0) dNil)))
  (dSeq (dDrop (dCall sp_require_length (dCons (dVar 1) (dCons (dC (.int 1000)) dNil))))
  (dRet (dCall sp_places_of2 (dCons (dCall sp_shown_by (dCons (dVar 0) (dCons (dVar 1) dNil))) dNil)))))
theorem pure_kept2 : Pure 2 sp_kept2 T_kept2 := by
  rintro ds S Q E frg ⟨⟨c, n⟩, rfl, ⟨hc, h0, h1⟩, q⟩
  have hc : okC c := hc
  have h0 : 0 ≤ n := h0
  have h1 : n ≤ 1000 := h1
  unfold T_kept2
  walk_at "wp"
  have z := shown_in hc h0
  exact ⟨_, rfl, chain_req hc, (.int n, 1000), rfl, len_req h0 h1, (c, n), rfl, ⟨hc.2, h0, by show n ≤ 10 ^ 18; omega⟩, shown c n, rfl, ⟨z.1, by show (shown c n).2.2 ≤ 1000; omega⟩, q⟩
/-! ### the number of a place -/
def sp_number_of : Sp2 := psp (α := List Sl × Int × Int) (fun a => [dCh a.1, .int a.2.1, .int a.2.2]) (fun a => okC a.1 ∧ (0 ≤ a.2.1 ∧ a.2.1 ≤ 1000000000000000) ∧ 0 ≤ a.2.2 ∧ a.2.2 < a.2.1) (fun a => dO (numF (shown a.1 a.2.1) a.2.2))
def T_number_of (a_InvalidPlace : Addr) : TS2 :=
  (dSeq (dDrop (dCall sp_require_chain (dCons (dVar 0) dNil)))
  (dSeq (dDrop (dCall sp_require_length (dCons (dVar 1) (dCons (dC (.int 1000000000000000)) dNil))))
  (dSeq (dIfS (dNot (dTest (dCall sp_is_integer (dCons (dVar 2) (dCons (dC (.int 0)) (dCons (dOp qSub (dVar 1) (dC (.int 1))) dNil)))))) (dRaise a_InvalidPlace) dNext)
  (dSeq (dAsg (dCall sp_shown_by (dCons (dVar 0) (dCons (dVar 1) dNil))) (kTup 3 (kCons (kName 3) (kCons (kName 4) (kCons (kName 5) kNil)))))
  (dSeq (dSet 6 (dOp qFdivN (dOp qSub (dVar 2) (dVar 3)) (dVar 4)))
  (dRet (dIf (dAnd (dTest (dChain qLe qLt (dC (.int 0)) (dVar 6) (dVar 5))) (dTest (dOp qEq (dOp qAdd (dVar 3) (dOp qMul (dVar 4) (dVar 6))) (dVar 2)))) (dVar 6) (dC .non))))))))
theorem pure_number_of (a : Addr) : Pure 7 sp_number_of (T_number_of a) := by
  rintro ds S Q E frg ⟨⟨c, n, v⟩, rfl, ⟨hc, ⟨h0, h1⟩, h2, h3⟩, q⟩
  have hc : okC c := hc
  have h0 : 0 ≤ n := h0
  have h1 : n ≤ 1000000000000000 := h1
  have h2 : 0 ≤ v := h2
  have h3 : v < n := h3
  have st := shown_step hc n
  have q : Q (dO (numF (shown c n) v)) S := q
  unfold T_number_of
  walk_at "wp"
  refine ⟨_, rfl, chain_req hc, (.int n, 1000000000000000), rfl, len_req h0 h1, (.int v, 0, n - 1), rfl, .int _, ?_⟩
  walk_at "wp"
  refine iteN (by show ¬ (!isInt (.int v) 0 (n - 1)) = true; simp [isInt]; omega) ⟨(c, n), rfl, ⟨hc.2, h0, by show n ≤ 10 ^ 18; omega⟩, ?_⟩
  dsimp only
  rw [dPg_eq]
  walk_at "wp"
  refine ⟨⟨st.1, by omega⟩, ?_⟩
  obtain ⟨k, hk⟩ : ∃ k, k = (v - (shown c n).1).fdiv (shown c n).2.1 := ⟨_, rfl⟩
  unfold numF at q
  rw [← hk] at q ⊢
  by_cases g0 : 0 ≤ k
  · refine iteP g0 ?_
    by_cases g1 : k < (shown c n).2.2
    · refine iteP g1 ⟨.inl ⟨by omega, by omega⟩, ?_⟩
      by_cases g2 : (shown c n).1 + (shown c n).2.1 * k = v
      · rw [if_pos ⟨⟨g0, g1⟩, g2⟩] at q
        exact iteP g2 q
      · rw [if_neg (fun z => g2 z.2)] at q
        exact iteN g2 q
    · rw [if_neg (fun z => g1 z.1.2)] at q
      exact iteN g1 (iteN (by decide) q)
  · rw [if_neg (fun z => g0 z.1.1)] at q
    exact iteN g0 (iteN (by decide) q)
end Sc

namespace Sc
open PySem PySem.Spec PyProof.Rows L2 Sm
local macro_rules | `(tactic| walk_at "wp") => `(tactic| simp only [dRevT, dRevL, dEnumT, qRepA, qRepL, qCatL, qIn, qNotIn, dListR1, dListR2, dRet, dSeq, dIfS, dNext, dDrop, dSet, dAsg, dPar, dPar3, dAug, dVar, dC, dOp, dUn, dTest, dTru, dNot, dAnd, dOr, dAndV, dOrV, dNotV, dIf, dChain, dCall, dCons, dNil, dCB, dTup, dLst, dIsi, dStore, kSub, dYes, dFor, dIt, dItL, dRng1, dRng2, dSl, dNoP, dPart, dMt, dRaise,
  qI, qI0, qAdd, qSub, qMul, qFdiv, qFdivN, qMod, qPow, qLt, qLe, qGt, qGe, qEq, qNe, qIsN, qNotN, qIsB, qNotB, qNeg, qAbs, qMax2, qMin2, qLen, qIx, qTupOf, qLstOf, qSlT, qSlL, qCatT, qRepT, kName, kTup, kCons, kNil, start2, List.map_cons, List.map_nil, List.length_cons, List.length_nil, List.replicate, List.cons_append, List.nil_append, List.append_nil,
  List.getElem?_cons_zero, List.getElem?_cons_succ, List.set_cons_zero, List.set_cons_succ, Option.some.injEq, exists_eq_left', exists_eq_left, Dt.int.injEq, Dt.bl.injEq, Dt.ref.injEq, Dt.tup.injEq, Dt.lst.injEq, Nat.sub_zero, Nat.zero_add, Nat.reduceAdd, Nat.reduceSub, asQ_tup, asQ_lst, asL_lst, asT_tup, asQ_put, asL_put, exists_and_left, List.cons.injEq, and_true, isN_int, isN_non, truD_int, truD_non, at_0, at_1, at_2, ix20, ix21, Cells.put_same, Cells.put_put, Cell.lst.injEq, sEq_ii, sEq_bb, sEq_ss, sEq_nn, sEq_ni, sEq_in, true_and, decide_eq_true_eq, and_assoc])

def sp__law_cut2 : Sp2 := fun ds S Q _ => ∃ (s : Sl) (p : Pg) (d : Dt), ds = [dS s, d] ∧ asQ S d = some ((plc p).map Dt.int) ∧ okS s ∧ 0 ≤ p.2.2 ∧ p.2.2 ≤ 90000 ∧ newL ((plc (applied s p)).map Dt.int) S Q
theorem cut_mono2 : sp__law_cut2.Mono := ⟨fun ds S Q Q' E E' h _ ⟨s, p, d, e, h1, h2, h3, h4, q⟩ => ⟨s, p, d, e, h1, h2, h3, h4, newL.mono h q⟩⟩
theorem cut_lenD2 : ∀ ds S Q E, sp__law_cut2 ds S Q E → ds.length = 2 := fun ds S Q E ⟨s, p, d, e, _⟩ => by rw [e]; rfl
theorem pure__law_cut2 : Pure 9 sp__law_cut2 T__law_cut := by
  rintro ds S Q E frg ⟨⟨a, b, t⟩, p, d, rfl, hd, hs, hp0, hp1, q⟩
  have ht : -3 ≤ t ∧ t ≤ 3 ∧ t ≠ 0 := hs.2.2
  unfold T__law_cut
  simp only [dS_eq]
  walk_at "wp"
  refine ⟨_, hd, by decide, .inr fun r hr => ?_⟩
  have hd2 : ∀ c, asQ (S.put r c) d = some ((plc p).map Dt.int) := fun c => asQ_new hr hd
  have ec : (((plc p).map Dt.int).length : Int) = p.2.2 := by
    rw [List.length_map, plc_len]
    omega
  rw [ec]
  obtain ⟨c, hcc⟩ : ∃ c, c = p.2.2 := ⟨_, rfl⟩
  rw [← hcc] at ec ⊢
  have hc0 : 0 ≤ c := by omega
  have mle := many_le hs hc0
  have loopP : 0 < t → ∀ (hh ee : Int) (u0 u2 u3 : Option Dt), hh = max (hereP a c) 0 → ee = stopP b c →
      dWhile (dTest (dOp qLt (dVar 7) (dCB qMin2 (dCons (dVar 8) (dCons (dVar 5) dNil))))) (dSeq (dDrop (dMt qAppend (dVar 6) (dCons (dOp qIx (dVar 1) (dVar 7)) dNil))) (dSet 7 (dOp qAdd (dVar 7) (dVar 4)))) (X0 E)
        { nx := fun ds' S' => ∃ d, ds'[6]? = some (some d) ∧ Q d S', rt := Q } [u0, some d, u2, u3, some (.int t), some (.int c), some (.ref r), some (.int hh), some (.int ee)] (S.put r (.lst [])) := by
    intro h0 hh ee u0 u2 u3 e1 e2
    refine wh_inv (fun (i : Nat) ds S' => (i : Int) ≤ manyOf (a, b, t) c ∧ S' = S.put r (.lst ((plc ((applied (a, b, t) p).1, (applied (a, b, t) p).2.1, (i : Int))).map Dt.int)) ∧ ds = [u0, some d, u2, u3, some (.int t), some (.int c), some (.ref r), some (.int (hh + t * (i : Int))), some (.int ee)]) (fun i => (manyOf (a, b, t) c).toNat - i) ?_ (a := 0) ⟨many_nn _ _, rfl, by simp⟩
    rintro i ds S' N ⟨hi, rfl, rfl⟩ hN
    have cp := cut_pos (a := a) (b := b) (i := (i : Int)) h0 hc0 (by omega)
    rw [← e1, ← e2] at cp
    walk_at "wp"
    simp only [min_if]
    refine ite2 (fun h => ?_) (fun h => ?_)
    · have hm := cp.1.mp (by first | exact h | simpa using h)
      have pa := plc_applied (p := p) (i := i) hs hp0 (by rw [← hcc]; exact hm)
      rw [← hcc] at pa
      have eh := cp.2 hm
      have h00 : 0 ≤ hh + t * (i : Int) := by
        have z := slice_place hs hc0 (k := (i : Int)) (by omega) hm
        rw [eh]
        exact z.1
      refine ⟨⟨_, asL_put⟩, _, hd2 _, _, at_plc h00 (by rw [eh]; exact pa), r, _, _, rfl, rfl, Cells.put_same, by rw [List.length_map, plc_len]; simp only [Int.toNat_natCast]; omega, ?_⟩
      rw [Cells.put_put]
      refine hN (i + 1) _ _ (by omega) ⟨by omega, ?_, ?_⟩
      · rw [plc_snoc (p := applied (a, b, t) p), List.map_append]
        rfl
      · rw [show ((i + 1 : Nat) : Int) = (i : Int) + 1 by omega, Int.mul_add, Int.mul_one, Int.add_assoc]
    · have hm : ¬ (i : Int) < manyOf (a, b, t) c := fun z => by
        have := cp.1.mpr z
        first
          | exact h this
          | simp [this] at h
      have hie : (i : Int) = manyOf (a, b, t) p.2.2 := by rw [← hcc]; omega
      rw [hie]
      exact newL.fin frg hr q
  have loopN : t < 0 → ∀ (hh ee : Int) (u0 u2 u3 : Option Dt), hh = min (hereN a c) (c - 1) → ee = stopN b c →
      dWhile (dTest (dOp qGt (dVar 7) (dVar 8))) (dSeq (dDrop (dMt qAppend (dVar 6) (dCons (dOp qIx (dVar 1) (dVar 7)) dNil))) (dSet 7 (dOp qAdd (dVar 7) (dVar 4)))) (X0 E)
        { nx := fun ds' S' => ∃ d, ds'[6]? = some (some d) ∧ Q d S', rt := Q } [u0, some d, u2, u3, some (.int t), some (.int c), some (.ref r), some (.int hh), some (.int ee)] (S.put r (.lst [])) := by
    intro h0 hh ee u0 u2 u3 e1 e2
    refine wh_inv (fun (i : Nat) ds S' => (i : Int) ≤ manyOf (a, b, t) c ∧ S' = S.put r (.lst ((plc ((applied (a, b, t) p).1, (applied (a, b, t) p).2.1, (i : Int))).map Dt.int)) ∧ ds = [u0, some d, u2, u3, some (.int t), some (.int c), some (.ref r), some (.int (hh + t * (i : Int))), some (.int ee)]) (fun i => (manyOf (a, b, t) c).toNat - i) ?_ (a := 0) ⟨many_nn _ _, rfl, by simp⟩
    rintro i ds S' N ⟨hi, rfl, rfl⟩ hN
    have cp := cut_neg (a := a) (b := b) (i := (i : Int)) h0 hc0 (by omega)
    rw [← e1, ← e2] at cp
    walk_at "wp"
    try simp only [min_if]
    refine ite2 (fun h => ?_) (fun h => ?_)
    · have hm := cp.1.mp (by first | exact h | simpa using h)
      have pa := plc_applied (p := p) (i := i) hs hp0 (by rw [← hcc]; exact hm)
      rw [← hcc] at pa
      have eh := cp.2 hm
      have h00 : 0 ≤ hh + t * (i : Int) := by
        have z := slice_place hs hc0 (k := (i : Int)) (by omega) hm
        rw [eh]
        exact z.1
      refine ⟨⟨_, asL_put⟩, _, hd2 _, _, at_plc h00 (by rw [eh]; exact pa), r, _, _, rfl, rfl, Cells.put_same, by rw [List.length_map, plc_len]; simp only [Int.toNat_natCast]; omega, ?_⟩
      rw [Cells.put_put]
      refine hN (i + 1) _ _ (by omega) ⟨by omega, ?_, ?_⟩
      · rw [plc_snoc (p := applied (a, b, t) p), List.map_append]
        rfl
      · rw [show ((i + 1 : Nat) : Int) = (i : Int) + 1 by omega, Int.mul_add, Int.mul_one, Int.add_assoc]
    · have hm : ¬ (i : Int) < manyOf (a, b, t) c := fun z => by
        have := cp.1.mpr z
        first
          | exact h this
          | simp [this] at h
      have hie : (i : Int) = manyOf (a, b, t) p.2.2 := by rw [← hcc]; omega
      rw [hie]
      exact newL.fin frg hr q
  dsimp only
  by_cases h0 : 0 < t
  · refine iteP h0 ?_
    have L := loopP h0
    cases a <;> cases b <;> simp only [dO] <;> (try walk_at "wp") <;> simp only [max_if, Bool.false_eq_true, if_true, if_false]
    · exact L _ _ _ _ _ (by simp only [hereP]; try omega) (by simp only [stopP]; try omega)
    · split <;> rename_i h <;> exact L _ _ _ _ _ (by simp only [hereP]; try omega) (by simp only [stopP, h, if_true, if_false]; try omega)
    · split <;> rename_i h <;> exact L _ _ _ _ _ (by simp only [hereP, h, if_true, if_false]; try omega) (by simp only [stopP]; try omega)
    · split <;> rename_i h <;> split <;> rename_i h2 <;> exact L _ _ _ _ _ (by simp only [hereP, h, if_true, if_false]; try omega) (by simp only [stopP, h2, if_true, if_false]; try omega)
  · refine iteN h0 ?_
    have L := loopN (by omega)
    cases a <;> cases b <;> simp only [dO] <;> (try walk_at "wp") <;> simp only [max_if, min_if, Bool.false_eq_true, if_true, if_false]
    · exact L _ _ _ _ _ (by simp only [hereN]; try omega) (by simp only [stopN]; try omega)
    · split <;> rename_i h <;> exact L _ _ _ _ _ (by simp only [hereN]; try omega) (by simp only [stopN, h, if_true, if_false]; try omega)
    · split <;> rename_i h <;> exact L _ _ _ _ _ (by simp only [hereN, h, if_true, if_false]; try omega) (by simp only [stopN]; try omega)
    · split <;> rename_i h <;> split <;> rename_i h2 <;> exact L _ _ _ _ _ (by simp only [hereN, h, if_true, if_false]; try omega) (by simp only [stopN, h2, if_true, if_false]; try omega)
def T__law_kept2 : TS2 :=
  (dSeq (dSet 2 (dListR1 (dVar 1)))
  (dSeq (dFor (dIt (dVar 0)) (kName 3) (dSet 2 (dCall sp__law_cut2 (dCons (dVar 3) (dCons (dVar 2) dNil)))))
  (dRet (dVar 2))))

def sp__law_kept2 : Sp2 := lsp (α := List Sl × Int) (fun a => [dCh a.1, .int a.2]) (fun a => (∀ s, s ∈ a.1 → okS s) ∧ 0 ≤ a.2 ∧ a.2 ≤ 90000) (fun a => (plc (shown a.1 a.2)).map Dt.int)
theorem pure__law_kept2 : Pure 4 sp__law_kept2 T__law_kept2 := by
  rintro ds S Q E frg ⟨⟨c, n⟩, rfl, ⟨hc, h0, h1⟩, q⟩
  have h0 : 0 ≤ n := h0
  have h1 : n ≤ 90000 := h1
  have hc : ∀ s, s ∈ c → okS s := hc
  have q : newL ((plc (shownF c (0, 1, n))).map Dt.int) S Q := q
  unfold T__law_kept2
  walk_at "wp"
  have e : rng 0 n.toNat = (plc (0, 1, n)).map Dt.int := by
    unfold rng plc
    rw [List.map_map]
    refine List.map_congr_left fun i _ => ?_
    show Dt.int (0 + (i : Int)) = Dt.int (0 + 1 * (i : Int))
    rw [Int.one_mul]
  rw [e]
  refine ⟨by omega, by omega, ?_⟩
  have go : ∀ (r : List Sl) (p : Pg) (d : Dt) (S' : Cells), (∀ s, s ∈ r → s ∈ c) → 0 ≤ p.2.2 → p.2.2 ≤ n → ((r = [] ∧ Q d S') ∨ (r ≠ [] ∧ S' = S ∧ d = .lst ((plc p).map Dt.int) ∧ newL ((plc (shownF r p)).map Dt.int) S Q)) →
      ∀ u, dLoop (kName 3) (dSet 2 (dCall sp__law_cut2 (dCons (dVar 3) (dCons (dVar 2) dNil)))) (X0 E) { nx := fun ds' S' => ∃ d, ds'[2]? = some (some d) ∧ Q d S', rt := Q } (r.map dS) [some (.tup (c.map dS)), some (.int n), some d, u] S' := by
    intro r
    induction r with
    | nil =>
      intro p d S' hm hp0 hp1 h u
      rcases h with ⟨_, h⟩ | ⟨h, _⟩
      · exact ⟨d, rfl, h⟩
      · exact absurd rfl h
    | cons s r ih =>
      intro p d S' hm hp0 hp1 h u
      rcases h with ⟨h, _⟩ | ⟨_, rfl, rfl, h⟩
      · cases h
      · have hs := hc s (hm s List.mem_cons_self)
        have ml := many_le hs hp0
        have mn : 0 ≤ (applied s p).2.2 := many_nn _ _
        have ml : (applied s p).2.2 ≤ p.2.2 := ml
        have hm2 : ∀ s, s ∈ r → s ∈ c := fun s h => hm s (List.mem_cons_of_mem _ h)
        show kName 3 (dS s) _ _ _
        walk_at "wp"
        refine ⟨s, p, _, rfl, rfl, hs, hp0, by omega, ?_⟩
        cases r with
        | nil => exact newL.mono (fun d S1 hq => ih (applied s p) d S1 hm2 mn (by omega) (.inl ⟨rfl, hq⟩) _) h
        | cons s2 r2 => exact .inl (ih (applied s p) _ _ hm2 mn (by omega) (.inr ⟨by simp, rfl, rfl, h⟩) _)
  cases hcc : c with
  | nil =>
    rw [hcc] at q go
    exact newL.mono (fun d S1 hq => ⟨_, rfl, go [] (0, 1, n) d S1 (fun _ h => h) h0 (Int.le_refl _) (.inl ⟨rfl, hq⟩) _⟩) q
  | cons s r =>
    rw [hcc] at q go
    exact .inl ⟨_, rfl, go (s :: r) (0, 1, n) _ S (fun _ h => h) h0 (Int.le_refl _) (.inr ⟨by simp, rfl, rfl, q⟩) _⟩
end Sc

namespace Sc
open PySem PySem.Spec PyProof.Rows L2 Sm
local macro_rules | `(tactic| walk_at "wp") => `(tactic| simp only [dRevT, dRevL, dEnumT, qRepA, qRepL, qCatL, qIn, qNotIn, dListR1, dListR2, dRet, dSeq, dIfS, dNext, dDrop, dSet, dAsg, dPar, dPar3, dAug, dVar, dC, dOp, dUn, dTest, dTru, dNot, dAnd, dOr, dAndV, dOrV, dNotV, dIf, dChain, dCall, dCons, dNil, dCB, dTup, dLst, dIsi, dStore, kSub, dYes, dFor, dIt, dItL, dRng1, dRng2, dSl, dNoP, dPart, dMt, dRaise,
  qI, qI0, qAdd, qSub, qMul, qFdiv, qFdivN, qMod, qPow, qLt, qLe, qGt, qGe, qEq, qNe, qIsN, qNotN, qIsB, qNotB, qNeg, qAbs, qMax2, qMin2, qLen, qIx, qTupOf, qLstOf, qSlT, qSlL, qCatT, qRepT, kName, kTup, kCons, kNil, start2, List.map_cons, List.map_nil, List.length_cons, List.length_nil, List.replicate, List.cons_append, List.nil_append, List.append_nil,
  List.getElem?_cons_zero, List.getElem?_cons_succ, List.set_cons_zero, List.set_cons_succ, Option.some.injEq, exists_eq_left', exists_eq_left, Dt.int.injEq, Dt.bl.injEq, Dt.ref.injEq, Dt.tup.injEq, Dt.lst.injEq, Nat.sub_zero, Nat.zero_add, Nat.reduceAdd, Nat.reduceSub, asQ_tup, asQ_lst, asL_lst, asT_tup, asQ_put, asL_put, exists_and_left, List.cons.injEq, and_true, isN_int, isN_non, truD_int, truD_non, at_0, at_1, at_2, ix20, ix21, Cells.put_same, Cells.put_put, Cell.lst.injEq, sEq_ii, sEq_bb, sEq_ss, sEq_nn, sEq_ni, sEq_in, true_and, decide_eq_true_eq, and_assoc])

/-! ### hidden numbers -/
def isSgt (d : Dt) : Bool := match d with
  | .tup [a, b] => isInt a 0 200 && isPls b 199
  | _ => false
def sp_is_sighting : Sp2 := psp (α := Dt) (fun a => [a]) Nr (fun a => .bl (isSgt a))
def T_is_sighting : TS2 :=
  (dSeq (dIfS (dOr (dNot (dTest (dIsi "tuple" (dVar 0)))) (dOr (dTest (dOp qNe (dCB qLen (dCons (dVar 0) dNil)) (dC (.int 2)))) (dNot (dTest (dCall sp_is_integer (dCons (dOp qIx (dVar 0) (dC (.int 0))) (dCons (dC (.int 0)) (dCons (dC (.int 200)) dNil)))))))) (dRet (dC (.bl false))) dNext)
  (dRet (dCall sp_are_places (dCons (dOp qIx (dVar 0) (dC (.int 1))) (dCons (dOp qSub (dC (.int 200)) (dC (.int 1))) dNil)))))
theorem pure_is_sighting : Pure 1 sp_is_sighting T_is_sighting := by
  rintro ds S Q E frg ⟨d, rfl, h, q⟩
  have h : Nr d := h
  have q : Q (.bl (isSgt d)) S := q
  unfold T_is_sighting
  walk_at "wp"
  refine ⟨_, isi_tuple h, ?_⟩
  cases h with
  | @tup es hh =>
    refine iteN (by first | (show ¬ (!true) = true; decide) | simp [isiN]) ⟨_, rfl, ?_⟩
    match es, hh, q with
    | [], hh, q => exact iteP (by rfl) (iteP trivial q)
    | [a], hh, q => exact iteP (by rfl) (iteP trivial q)
    | [a, b], hh, q =>
      have ha := hh a (by simp)
      have hb := hh b (by simp)
      have q : Q (.bl (isInt a 0 200 && isPls b 199)) S := q
      refine iteN (by show ¬ false = true; decide) ?_
      walk_at "wp"
      refine ⟨(a, 0, 200), rfl, ha, _, rfl, ?_⟩
      by_cases g : isInt a 0 200 = true
      · refine iteN (by show ¬ (!isInt a 0 200) = true; rw [g]; decide) ⟨(b, 200 - 1), rfl, hb, ?_⟩
        rw [g] at q
        exact q
      · have g : isInt a 0 200 = false := by simpa using g
        rw [g] at q
        exact iteP (by show (!isInt a 0 200) = true; rw [g]; rfl) q
    | a :: b :: c :: r, hh, q => exact iteP (by simp; omega) (iteP trivial q)
  | _ => exact iteP (by first | rfl | simp [isiN]) (by first | exact q | exact iteP trivial q)
def dSg (ss : List (Int × List Int)) : Dt := .tup (ss.map fun x => .tup [.int x.1, dPt x.2])
def okSg (ss : List (Int × List Int)) : Prop := 1 ≤ ss.length ∧ ss.length ≤ 6 ∧ ∀ x, x ∈ ss → (0 ≤ x.1 ∧ x.1 ≤ 200) ∧ isPls (dPt x.2) 199 = true
theorem dPt_nr (l : List Int) : Nr (dPt l) := .tup fun d h => by
  obtain ⟨i, _, rfl⟩ := List.mem_map.mp h
  exact .int _
theorem dSg1_nr (x : Int × List Int) : Nr (.tup [.int x.1, dPt x.2]) := .tup fun d h => by
  simp only [List.mem_cons, List.not_mem_nil, or_false] at h
  rcases h with rfl | rfl
  · exact .int _
  · exact dPt_nr _
theorem dSg_nr (ss : List (Int × List Int)) : Nr (dSg ss) := .tup fun d h => by
  obtain ⟨x, _, rfl⟩ := List.mem_map.mp h
  exact dSg1_nr x
/-- the values, the slice that a value makes -/
def valsL : List (Option Int) := none :: (List.range 61).map fun (k : Nat) => some ((k : Int) - 30)
def goodV (s : Sl) (p : Nat) (o : Option Int) : Option Sl := match p with
  | 0 => some (o, s.2.1, s.2.2)
  | 1 => some (s.1, o, s.2.2)
  | _ => match o with
    | none => none
    | some t => if (-3 ≤ t ∧ t ≤ 3) ∧ t ≠ 0 then some (s.1, s.2.1, t) else none
def oneD (s : Sl) (p : Nat) (o : Option Int) : Dt := .tup (([dO s.1, dO s.2.1, .int s.2.2] : List Dt).take p ++ [dO o] ++ ([dO s.1, dO s.2.1, .int s.2.2] : List Dt).drop (p + 1))
def fitsV (c : List Sl) (i : Nat) (ss : List (Int × List Int)) (s : Sl) : Bool := ss.all fun x => decide (plc (shown (c.take i ++ [s] ++ c.drop (i + 1)) x.1) = x.2)
def fitV (c : List Sl) (i p : Nat) (s : Sl) (ss : List (Int × List Int)) (o : Option Int) : Bool := match goodV s p o with
  | none => false
  | some s' => fitsV c i ss s'
theorem valsL_in {o : Option Int} (h : o ∈ valsL) : okB o := by
  rcases List.mem_cons.mp h with rfl | h
  · exact okB_n
  · obtain ⟨k, hk, rfl⟩ := List.mem_map.mp h
    have := List.mem_range.mp hk
    exact okB_i ⟨by omega, by omega⟩
theorem goodV_some {s s' : Sl} {p : Nat} {o : Option Int} (hs : okS s) (ho : okB o) (hp : p < 3) (h : goodV s p o = some s') : oneD s p o = dS s' ∧ okS s' := by
  have : p = 0 ∨ p = 1 ∨ p = 2 := by omega
  rcases this with rfl | rfl | rfl
  · cases h
    exact ⟨rfl, ho, hs.2⟩
  · cases h
    exact ⟨rfl, hs.1, ho, hs.2.2⟩
  · cases o with
    | none => cases h
    | some t =>
      have h : (if (-3 ≤ t ∧ t ≤ 3) ∧ t ≠ 0 then some (s.1, s.2.1, t) else none) = some s' := h
      split at h
      · rename_i g
        cases h
        exact ⟨rfl, hs.1, hs.2.1, g.1.1, g.1.2, g.2⟩
      · cases h
theorem goodV_none {s : Sl} {p : Nat} {o : Option Int} (hs : okS s) (hp : p < 3) (h : goodV s p o = none) : isSlc (oneD s p o) = false := by
  have : p = 0 ∨ p = 1 ∨ p = 2 := by omega
  rcases this with rfl | rfl | rfl
  · cases h
  · cases h
  · cases o with
    | none =>
      show (isBnd (dO s.1) && isBnd (dO s.2.1) && isStp .non) = false
      rw [show isStp .non = false from rfl, Bool.and_false]
    | some t =>
      have h : (if (-3 ≤ t ∧ t ≤ 3) ∧ t ≠ 0 then some (s.1, s.2.1, t) else none) = none := h
      split at h
      · cases h
      · rename_i g
        show (isBnd (dO s.1) && isBnd (dO s.2.1) && isStp (.int t)) = false
        have e : isStp (.int t) = false := by
          show (decide (-3 ≤ t ∧ t ≤ 3) && decide (t ≠ 0)) = false
          rw [Bool.and_eq_false_iff, decide_eq_false_iff_not, decide_eq_false_iff_not]
          by_cases z : -3 ≤ t ∧ t ≤ 3
          · exact .inr fun w => g ⟨z, w⟩
          · exact .inl z
        rw [e, Bool.and_false]
theorem oneD_nr (s : Sl) {p : Nat} (hp : p < 3) (o : Option Int) : Nr (oneD s p o) := by
  have : p = 0 ∨ p = 1 ∨ p = 2 := by omega
  refine .tup fun d h => ?_
  rcases this with rfl | rfl | rfl <;>
    (simp only [List.take, List.drop, List.cons_append, List.nil_append, List.mem_cons, List.not_mem_nil, or_false] at h
     rcases h with rfl | rfl | rfl <;> first | exact dO_nr _ | exact .int _)
def fieldS : Nat → Str
  | 0 => "start"
  | 1 => "stop"
  | _ => "step"
def valsR (c : List Sl) (i p : Nat) (ss : List (Int × List Int)) : List Dt := (valsL.filter (fitV c i p (c.getD i (none, none, 1)) ss)).map dO
def sp_possible_values : Sp2 := lsp (α := List Sl × Nat × Nat × List (Int × List Int)) (fun a => [dCh a.1, .int (a.2.1 : Int), .str (fieldS a.2.2.1), dSg a.2.2.2]) (fun a => okC a.1 ∧ a.2.1 < a.1.length ∧ a.2.2.1 < 3 ∧ okSg a.2.2.2) (fun a => valsR a.1 a.2.1 a.2.2.1 a.2.2.2)
theorem vals_eq : Dt.non :: rng (0 - 30) (30 + 1 - (0 - 30) : Int).toNat = valsL.map dO := by
  unfold valsL rng
  rw [List.map_cons, List.map_map]
  refine congrArg (List.cons Dt.non) ?_
  show (List.range 61).map _ = (List.range 61).map _
  refine List.map_congr_left fun i _ => ?_
  exact congrArg Dt.int (by omega)
theorem field_flat (p : Nat) : flD (.str (fieldS p)) = true := rfl
theorem field_in {p : Nat} (hp : p < 3) : isIn (.str (fieldS p)) [.str "start", .str "stop", .str "step"] = true := by
  have : p = 0 ∨ p = 1 ∨ p = 2 := by omega
  rcases this with rfl | rfl | rfl <;> decide
theorem field_at {p : Nat} (hp : p < 3) : (["start", "stop", "step"] : List Str)[p]? = some (fieldS p) ∧ ∀ m, m < p → (["start", "stop", "step"] : List Str)[m]? ≠ some (fieldS p) := by
  have : p = 0 ∨ p = 1 ∨ p = 2 := by omega
  rcases this with rfl | rfl | rfl
  · exact ⟨rfl, fun m hm => by omega⟩
  · refine ⟨rfl, fun m hm => ?_⟩
    have : m = 0 := by omega
    subst this
    decide
  · refine ⟨rfl, fun m hm => ?_⟩
    have : m = 0 ∨ m = 1 := by omega
    rcases this with rfl | rfl <;> decide
def T_possible_values (a_InvalidField : Addr) (a_InvalidIndex : Addr) (a_InvalidSightings : Addr) : TS2 :=
  (dSeq (dDrop (dCall sp_require_chain (dCons (dVar 0) dNil)))
  (dSeq (dIfS (dNot (dTest (dCall sp_is_integer (dCons (dVar 1) (dCons (dC (.int 0)) (dCons (dOp qSub (dCB qLen (dCons (dVar 0) dNil)) (dC (.int 1))) dNil)))))) (dRaise a_InvalidIndex) dNext)
  (dSeq (dIfS (dOr (dNot (dTest (dIsi "str" (dVar 2)))) (dTest (dOp qNotIn (dVar 2) (dC (.tup [(.str "start"), (.str "stop"), (.str "step")]))))) (dRaise a_InvalidField) dNext)
  (dSeq (dIfS (dOr (dNot (dTest (dIsi "tuple" (dVar 3)))) (dNot (dTest (dChain qLe qLe (dC (.int 1)) (dCB qLen (dCons (dVar 3) dNil)) (dC (.int 6)))))) (dRaise a_InvalidSightings) dNext)
  (dSeq (dIfS (dNot (dTest (dCB qAll (dCons (dLc (dIt (dVar 3)) (kName 7) dYes (dCall sp_is_sighting (dCons (dVar 7) dNil))) dNil)))) (dRaise a_InvalidSightings) dNext)
  (dSeq (dPar 4 5 (dCons (dTIndex ["start", "stop", "step"] (dVar 2)) (dCons (dLst dNil) dNil)))
  (dSeq (dFor (dItL (dOp qCatL (dLst (dCons (dC .non) dNil)) (dListR2 (dOp qSub (dC (.int 0)) (dC (.int 30))) (dOp qAdd (dC (.int 30)) (dC (.int 1)))))) (kName 6) (dSeq (dSet 7 (dOp qCatT (dOp qCatT (dSl qSlT (dOp qIx (dVar 0) (dVar 1)) dNoP (dPart (dVar 4))) (dTup (dCons (dVar 6) dNil))) (dSl qSlT (dOp qIx (dVar 0) (dVar 1)) (dPart (dOp qAdd (dVar 4) (dC (.int 1)))) dNoP)))
  (dSeq (dSet 8 (dOp qCatT (dOp qCatT (dSl qSlT (dVar 0) dNoP (dPart (dVar 1))) (dTup (dCons (dVar 7) dNil))) (dSl qSlT (dVar 0) (dPart (dOp qAdd (dVar 1) (dC (.int 1)))) dNoP)))
  (dIfS (dAnd (dTest (dCall sp_is_slice (dCons (dVar 7) dNil))) (dTest (dCB qAll (dCons (dLc (dIt (dVar 3)) (kTup 2 (kCons (kName 9) (kCons (kName 10) kNil))) dYes (dCall sp_keeps (dCons (dVar 8) (dCons (dVar 9) (dCons (dVar 10) dNil))))) dNil)))) (dDrop (dMt qAppend (dVar 5) (dCons (dVar 6) dNil))) dNext))))
  (dRet (dVar 5)))))))))
theorem pure_possible_values (a1 a2 a3 : Addr) : Pure 11 sp_possible_values (T_possible_values a1 a2 a3) := by
  rintro ds S Q E frg ⟨⟨c, i, p, ss⟩, rfl, ⟨hc, hi, hp, hss⟩, q⟩
  have hc : okC c := hc
  have hi : i < c.length := hi
  have hp : p < 3 := hp
  have hss : okSg ss := hss
  obtain ⟨n1, n2, n3⟩ := hss
  unfold T_possible_values
  walk_at "wp"
  refine ⟨_, rfl, chain_req hc, ?_⟩
  unfold dCh
  walk_at "wp"
  refine ⟨(.int (i : Int), 0, ((c.map dS).length : Int) - 1), rfl, .int _, ?_⟩
  walk_at "wp"
  refine iteN (by rw [List.length_map]; simp [isInt]; omega) ?_
  refine ⟨_, isi_str (.str _), iteN (by show ¬ (!true) = true; decide) ⟨field_flat p, rfl, iteN ?_ ?_⟩⟩
  · rw [field_in hp]
    decide
  unfold dSg
  walk_at "wp"
  refine ⟨_, isi_tuple (dSg_nr ss), iteN (by show ¬ (!true) = true; decide) (iteP (by rw [List.length_map]; omega) (iteN (by rw [List.length_map]; simp; omega) ?_))⟩
  have lss : (ss.map fun x => Dt.tup [.int x.1, dPt x.2]).length ≤ 6 := by rw [List.length_map]; exact n2
  refine lc_map (items := ss.map fun x => Dt.tup [.int x.1, dPt x.2]) (fun d => .bl (isSgt d)) (fun R r => ⟨_, rfl, _, rfl, r⟩) (by omega) (fun d hd S R r => ?_) ?_
  · obtain ⟨x, _, rfl⟩ := List.mem_map.mp hd
    walk_at "wp"
    exact ⟨_, rfl, dSg1_nr x, r⟩
  refine ⟨_, ss.map fun x => isSgt (.tup [.int x.1, dPt x.2]), rfl, ?_, _, rfl, iteN ?_ ?_⟩
  · show some _ = some _
    rw [List.map_map, List.map_map]
    rfl
  · have e : (ss.map fun x => isSgt (.tup [.int x.1, dPt x.2])).all id = true := by
      rw [List.all_eq_true]
      intro b hb
      obtain ⟨x, hx, rfl⟩ := List.mem_map.mp hb
      have := n3 x hx
      show (isInt (.int x.1) 0 200 && isPls (dPt x.2) 199) = true
      rw [this.2]
      simp [isInt, this.1]
    rw [e]
    decide
  unfold dTIndex
  walk_at "wp"
  refine ⟨fieldS p, rfl, p, (field_at hp).1, (field_at hp).2, by decide, .inr fun pf nf => ⟨by decide, .inr fun p1 m1 => ⟨by decide, by decide, by decide, by decide, .inr fun p2 m2 => ⟨p1, rfl, p2, rfl, _, by rw [Cells.put_ne (Cells.ne_new Cells.put_same m2)]; exact Cells.put_same, _, Cells.put_same, ?_, .inl ⟨_, rfl, ?_⟩⟩⟩⟩⟩
  · rw [rng_len]
    decide
  have ne1 : p1 ≠ pf := (Cells.ne_new Cells.put_same m1).symm
  have gp1 : ((S.put pf (.lst [])).put p1 (.lst [.non])) pf = some (.lst []) := by rw [Cells.put_ne ne1.symm]; exact Cells.put_same
  have ne2 : p2 ≠ pf := (Cells.ne_new gp1 m2).symm
  have gr := ((Grow.base (S := S) (p := pf) (c := .lst [])).fresh (c := .lst [.non]) m1 ne1).fresh (c := .lst (rng (0 - 30) (30 + 1 - (0 - 30) : Int).toNat)) m2 ne2
  have gp2 : (((S.put pf (.lst [])).put p1 (.lst [.non])).put p2 (.lst (rng (0 - 30) (30 + 1 - (0 - 30) : Int).toNat))) pf = some (.lst []) := by rw [Cells.put_ne ne2.symm]; exact gp1
  have ev : ([Dt.non] ++ rng (0 - 30) (30 + 1 - (0 - 30) : Int).toNat) = valsL.map dO := vals_eq
  rw [ev]
  obtain ⟨s, g1, g2, g3⟩ := at_get (l := c) (i := (i : Int)) (by omega) (by omega)
  have hs := hc.2 s g2
  have es : c.getD i (none, none, 1) = s := by
    rw [Int.toNat_natCast] at g3
    rw [List.getD_eq_getElem?_getD, g3]
    rfl
  have vl : valsL.length = 62 := rfl
  refine loop_rest dO (fun r ds S2 => (∃ pre, pre ++ r = valsL ∧ S2 pf = some (.lst ((pre.filter (fitV c i p s ss)).map dO))) ∧ Grow S pf S2 ∧ ∃ x6 x7 x8 x9 x10, ds = [some (.tup (c.map dS)), some (.int (i : Int)), some (.str (fieldS p)), some (.tup (ss.map fun x => .tup [.int x.1, dPt x.2])), some (.int (p : Int)), some (.ref pf), x6, x7, x8, x9, x10]) ?_ ?_ valsL _ _ ⟨⟨[], rfl, gp2⟩, gr, _, _, _, _, _, rfl⟩
  · rintro o r ds S2 N ⟨⟨pre, epre, hS2⟩, hgr, _, _, _, _, _, rfl⟩ hN
    have ho : okB o := valsL_in (by rw [← epre]; exact List.mem_append_right _ List.mem_cons_self)
    have lpre : (pre.filter (fitV c i p s ss)).length ≤ 62 := by
      refine Nat.le_trans (List.length_filter_le _ _) ?_
      have := congrArg List.length epre
      rw [List.length_append, vl] at this
      omega
    have ep2 : ∀ b : Bool, fitV c i p s ss o = b → ((pre ++ [o]).filter (fitV c i p s ss)).map dO = (pre.filter (fitV c i p s ss)).map dO ++ (if b = true then [dO o] else []) := fun b hb => by
      rw [List.filter_append, List.map_append, List.filter_cons, hb, List.filter_nil]
      cases b <;> rfl
    have ep3 : (pre ++ [o]) ++ r = valsL := by rw [← epre, List.append_assoc]; rfl
    walk_at "wp"
    refine ⟨_, at_mapG g1, ?_⟩
    rw [dS_eq]
    walk_at "wp"
    rw [cutG_to, cutG_next, cutG_to]
    refine ⟨by decide, by rw [List.length_take]; simp; omega, _, at_mapG g1, [dO s.1, dO s.2.1, .int s.2.2], rfl, ?_⟩
    rw [cutG_next]
    have e1 : Dt.tup (List.take p [dO s.1, dO s.2.1, .int s.2.2] ++ [dO o] ++ List.drop (p + 1) [dO s.1, dO s.2.1, .int s.2.2]) = oneD s p o := rfl
    rw [e1]
    have l4 := hc.1
    refine ⟨by simp only [List.length_append, List.length_take, List.length_drop, List.length_singleton, List.length_cons, List.length_nil]; omega, by decide, by simp only [List.length_take, List.length_map]; omega, by simp only [List.length_append, List.length_take, List.length_drop, List.length_singleton, List.length_map]; omega, oneD s p o, rfl, oneD_nr s hp o, ?_⟩
    dsimp only
    walk_at "wp"
    cases gv : goodV s p o with
    | none =>
      have eF : fitV c i p s ss o = false := by
        unfold fitV
        rw [gv]
      have eS : isSlc (oneD s p o) = false := goodV_none hs hp gv
      refine iteN (by rw [eS]; decide) (iteN (by decide) (hN _ _ ⟨⟨pre ++ [o], ep3, ?_⟩, hgr, _, _, _, _, _, rfl⟩))
      rw [ep2 false eF, if_neg (by decide), List.append_nil]
      exact hS2
    | some s2 =>
      obtain ⟨eo, ok2⟩ := goodV_some hs ho hp gv
      have eS : isSlc (oneD s p o) = true := by rw [eo]; exact dS_isSlc ok2
      have hc2 : okC (c.take i ++ [s2] ++ c.drop (i + 1)) := okC_put hc hi ok2
      have eF : fitV c i p s ss o = fitsV c i ss s2 := by
        unfold fitV
        rw [gv]
      refine iteP eS ?_
      unfold dLc
      walk_at "wp"
      refine comp_mapE (fun x : Int × List Int => Dt.tup [.int x.1, dPt x.2]) (fun x => .bl (decide (plc (shown (c.take i ++ [s2] ++ c.drop (i + 1)) x.1) = x.2))) (by omega) (fun x hx S R r => ?_) (.inl ?_)
      · have h3 := n3 x hx
        walk_at "wp"
        refine ⟨(c.take i ++ [s2] ++ c.drop (i + 1), x.1, x.2), ?_, ⟨hc2, h3.1.1, by show x.1 ≤ 1000; omega⟩, r⟩
        rw [eo]
        show [_, _, _] = [dCh _, _, _]
        unfold dCh
        rw [List.map_append, List.map_append, List.map_take, List.map_drop]
        rfl
      · refine ⟨_, ss.map fun x => decide (plc (shown (c.take i ++ [s2] ++ c.drop (i + 1)) x.1) = x.2), rfl, ?_, _, rfl, ?_⟩
        · show some _ = some _
          rw [List.map_map]
          rfl
        have ea : (ss.map fun x => decide (plc (shown (c.take i ++ [s2] ++ c.drop (i + 1)) x.1) = x.2)).all id = fitsV c i ss s2 := by
          rw [List.all_map]
          rfl
        rw [ea]
        cases ef : fitsV c i ss s2 with
        | false =>
          rw [ef] at eF
          refine iteN (by decide) (hN _ _ ⟨⟨pre ++ [o], ep3, ?_⟩, hgr, _, _, _, _, _, rfl⟩)
          rw [ep2 false eF, if_neg (by decide), List.append_nil]
          exact hS2
        | true =>
          rw [ef] at eF
          refine iteP rfl ⟨⟨_, asL_ref hS2⟩, pf, _, _, rfl, rfl, hS2, by rw [List.length_map]; omega, hN _ _ ⟨⟨pre ++ [o], ep3, ?_⟩, hgr.put, _, _, _, _, _, rfl⟩⟩
          rw [ep2 true eF, if_pos rfl]
          exact Cells.put_same
  · rintro ds S2 ⟨⟨pre, epre, hS2⟩, hgr, _, _, _, _, _, rfl⟩
    walk_at "wp"
    rw [List.append_nil] at epre
    subst epre
    have q : newL ((valsL.filter (fitV c i p (c.getD i (none, none, 1)) ss)).map dO) S Q := q
    rw [es] at q
    have := hgr.use Q (.ref pf) _ frg.fg (newL.fin frg nf q)
    rw [put_self hS2] at this
    exact this
end Sc

/-! the places that two progressions share -/
namespace Sm
def onP (p : Pg) (v : Int) : Prop := ∃ k : Int, 0 ≤ k ∧ k < p.2.2 ∧ p.1 + p.2.1 * k = v
theorem onP_iff {p : Pg} {v : Int} (hs : 0 < p.2.1) : onP p v ↔ p.2.1 ∣ v - p.1 ∧ p.1 ≤ v ∧ v ≤ p.1 + p.2.1 * (p.2.2 - 1) := by
  constructor
  · rintro ⟨k, h0, h1, e⟩
    have a := Int.mul_nonneg (Int.le_of_lt hs) h0
    have b := Int.mul_le_mul_of_nonneg_left (show k ≤ p.2.2 - 1 by omega) (Int.le_of_lt hs)
    exact ⟨⟨k, by omega⟩, by omega, by omega⟩
  · rintro ⟨⟨k, e⟩, h1, h2⟩
    refine ⟨k, ?_, ?_, by omega⟩
    · have : p.2.1 * 0 ≤ p.2.1 * k := by omega
      exact Int.le_of_mul_le_mul_left this hs
    · have : p.2.1 * k ≤ p.2.1 * (p.2.2 - 1) := by omega
      have := Int.le_of_mul_le_mul_left this hs
      omega
def riseF (p : Pg) : Pg := if p.2.2 < 2 then (p.1, 1, p.2.2) else if 0 < p.2.1 then p else (p.1 + p.2.1 * (p.2.2 - 1), 0 - p.2.1, p.2.2)
theorem rise_pos {p : Pg} (h : p.2.1 ≠ 0) : 0 < (riseF p).2.1 := by
  unfold riseF
  split
  · exact (by decide : (0 : Int) < 1)
  · split
    · assumption
    · show 0 < 0 - p.2.1
      omega
theorem rise_count {p : Pg} : (riseF p).2.2 = p.2.2 := by
  unfold riseF
  split
  · rfl
  · split <;> rfl
theorem rise_on {p : Pg} {v : Int} : onP (riseF p) v ↔ onP p v := by
  unfold riseF
  split
  · rename_i h
    constructor <;>
    · rintro ⟨k, h0, h1, e⟩
      have h1 : k < p.2.2 := h1
      have hk : k = 0 := by omega
      subst hk
      refine ⟨0, by omega, h1, ?_⟩
      rw [Int.mul_zero] at e ⊢
      exact e
  · split
    · exact Iff.rfl
    · constructor <;>
      · rintro ⟨k, h0, h1, e⟩
        have h1 : k < p.2.2 := h1
        refine ⟨p.2.2 - 1 - k, by omega, show p.2.2 - 1 - k < p.2.2 by omega, ?_⟩
        simp only [Int.mul_sub, Int.sub_mul, Int.zero_mul, Int.mul_one] at e ⊢
        omega
/-! ### two strictly rising lists of the same items -/
theorem sorted_ext : ∀ {l m : List Int}, l.Pairwise (· < ·) → m.Pairwise (· < ·) → (∀ v, v ∈ l ↔ v ∈ m) → l = m
  | [], [], _, _, _ => rfl
  | [], b :: m, _, _, h => nomatch (h b).mpr List.mem_cons_self
  | a :: l, [], _, _, h => nomatch (h a).mp List.mem_cons_self
  | a :: l, b :: m, h1, h2, h => by
    obtain ⟨a1, a2⟩ := List.pairwise_cons.mp h1
    obtain ⟨b1, b2⟩ := List.pairwise_cons.mp h2
    have e : a = b := by
      rcases List.mem_cons.mp ((h a).mp List.mem_cons_self) with e | h3
      · exact e
      rcases List.mem_cons.mp ((h b).mpr List.mem_cons_self) with e | h4
      · exact e.symm
      have := b1 a h3
      have := a1 b h4
      omega
    subst e
    congr 1
    refine sorted_ext a2 b2 fun v => ⟨fun hv => ?_, fun hv => ?_⟩
    · rcases List.mem_cons.mp ((h v).mp (List.mem_cons_of_mem _ hv)) with e | h3
      · have := a1 v hv
        omega
      · exact h3
    · rcases List.mem_cons.mp ((h v).mpr (List.mem_cons_of_mem _ hv)) with e | h3
      · have := b1 v hv
        omega
      · exact h3
theorem plc_sorted {p : Pg} (hs : 0 < p.2.1) : (plc p).Pairwise (· < ·) := by
  unfold plc
  rw [List.pairwise_map]
  refine List.pairwise_lt_range.imp fun {i j} h => ?_
  have := Int.mul_lt_mul_of_pos_left (show (i : Int) < (j : Int) by omega) hs
  omega
theorem plc_on {p : Pg} {v : Int} : v ∈ plc p ↔ onP p v := plc_mem
/-- what a list of places says, told first, step, number -/
def toldL (l : List Int) : Option Int × Option Int × Int := (l[0]?, l[1]?.bind fun b => l[0]?.map fun a => b - a, (l.length : Int))
theorem toldL_plc {p : Pg} (h : 0 ≤ p.2.2) : toldL (plc p) = cleaned p := by
  unfold toldL cleaned
  rw [plc_len]
  by_cases h1 : p.2.2 > 1
  · rw [if_pos h1, if_pos (by omega), plc_get (i := 0) (by omega), plc_get (i := 1) (by omega)]
    refine Prod.ext ?_ (Prod.ext ?_ ?_)
    · show some (p.1 + p.2.1 * ((0 : Nat) : Int)) = some p.1
      congr 1
      simp
    · show some (p.1 + p.2.1 * ((1 : Nat) : Int) - (p.1 + p.2.1 * ((0 : Nat) : Int))) = some p.2.1
      congr 1
      simp
      omega
    · show ((p.2.2.toNat : Nat) : Int) = p.2.2
      omega
  · have e1 : (plc p)[1]? = none := List.getElem?_eq_none (by rw [plc_len]; omega)
    rw [if_neg h1, e1]
    by_cases h0 : p.2.2 > 0
    · rw [if_pos h0, plc_get (i := 0) (by omega)]
      refine Prod.ext ?_ (Prod.ext rfl ?_)
      · show some (p.1 + p.2.1 * ((0 : Nat) : Int)) = some p.1
        congr 1
        simp
      · show ((p.2.2.toNat : Nat) : Int) = p.2.2
        omega
    · have e0 : (plc p)[0]? = none := List.getElem?_eq_none (by rw [plc_len]; omega)
      rw [if_neg h0, e0]
      refine Prod.ext rfl (Prod.ext rfl ?_)
      show ((p.2.2.toNat : Nat) : Int) = p.2.2
      omega
theorem told_uniq {p : Pg} {l : List Int} (hs : 0 < p.2.1) (h0 : 0 ≤ p.2.2) (hl : l.Pairwise (· < ·)) (h : ∀ v, onP p v ↔ v ∈ l) : cleaned p = toldL l := by
  rw [← toldL_plc h0, sorted_ext (plc_sorted hs) hl fun v => plc_on.trans (h v)]
theorem cleaned_uniq {p q : Pg} (hs : 0 < p.2.1) (h0 : 0 ≤ p.2.2) (hs' : 0 < q.2.1) (h0' : 0 ≤ q.2.2) (h : ∀ v, onP p v ↔ onP q v) : cleaned p = cleaned q := by
  rw [← toldL_plc h0', told_uniq hs h0 (plc_sorted hs') fun v => (h v).trans plc_on.symm]
/-! ### steps -/
/-- two steps by their common divisor -/
theorem gcd_parts {s w : Int} (hs : 0 < s) (hw : 0 < w) : ∃ g a b : Int, 0 < g ∧ 0 < a ∧ 0 < b ∧ s = g * a ∧ w = g * b ∧ lcmI s w = g * a * b ∧ s * w / lcmI s w = g ∧ a.natAbs.gcd b.natAbs = 1 := by
  obtain ⟨m, rfl⟩ : ∃ m : Nat, s = m := ⟨s.toNat, by omega⟩
  obtain ⟨n, rfl⟩ : ∃ n : Nat, w = n := ⟨w.toNat, by omega⟩
  have hm : 0 < m := by omega
  have hn : 0 < n := by omega
  have hg : 0 < m.gcd n := Nat.gcd_pos_of_pos_left n hm
  obtain ⟨a, ea⟩ := Nat.gcd_dvd_left m n
  obtain ⟨b, eb⟩ := Nat.gcd_dvd_right m n
  obtain ⟨g, eg⟩ : ∃ g, g = m.gcd n := ⟨_, rfl⟩
  rw [← eg] at ea eb hg
  have ha : 0 < a := Nat.pos_of_ne_zero fun z => by subst z; omega
  have hb : 0 < b := Nat.pos_of_ne_zero fun z => by subst z; omega
  have hl : m.lcm n = g * a * b := by
    have := Nat.gcd_mul_lcm m n
    rw [← eg] at this
    refine Nat.eq_of_mul_eq_mul_left hg ?_
    rw [this, ea, eb]
    simp only [Nat.mul_assoc, Nat.mul_left_comm]
  have hL : lcmI (m : Int) (n : Int) = (g : Int) * a * b := by
    unfold lcmI
    rw [Int.natAbs_natCast, Int.natAbs_natCast, hl]
    simp
  refine ⟨g, a, b, by omega, by omega, by omega, by rw [ea]; simp, by rw [eb]; simp, hL, ?_, ?_⟩
  · rw [hL]
    have e : (m : Int) * n = g * ((g : Int) * a * b) := by
      rw [ea, eb]
      simp only [Int.natCast_mul, Int.mul_assoc, Int.mul_left_comm]
    rw [e]
    refine Int.mul_ediv_cancel _ ?_
    have : 0 < (g : Int) * a * b := Int.mul_pos (Int.mul_pos (by omega) (by omega)) (by omega)
    omega
  · rw [Int.natAbs_natCast, Int.natAbs_natCast]
    refine Nat.eq_of_mul_eq_mul_left hg ?_
    rw [← Nat.gcd_mul_left, ← ea, ← eb, ← eg, Nat.mul_one]
theorem lcm_dvd {s w x : Int} (h1 : s ∣ x) (h2 : w ∣ x) : lcmI s w ∣ x := by
  unfold lcmI
  refine Int.natAbs_dvd_natAbs.mp ?_
  rw [Int.natAbs_natCast]
  exact Nat.lcm_dvd (Int.natAbs_dvd_natAbs.mpr h1) (Int.natAbs_dvd_natAbs.mpr h2)
/-- the places of the two, from where one solves s * x = D, x below b, on -/
theorem meet_on {l s c b w m g a' b' x : Int} (hs : 0 < s) (hw : 0 < w) (hg : 0 < g) (ha : 0 < a') (hb : 0 < b') (es : s = g * a') (ew : w = g * b') (eL : lcmI s w = g * a' * b') (hx0 : 0 ≤ x) (hx1 : x < b') (D : Int) (eD : b - l = g * D) (hx : b' ∣ a' * x - D) (place whole last : Int) (eW : whole = lcmI s w)
    (eP : place = if l + s * x < max l b then l + s * x + (max l b - (l + s * x) + whole - 1) / whole * whole else l + s * x) (eZ : last = min (l + s * (c - 1)) (b + w * (m - 1))) (v : Int) :
    onP (place, whole, max 0 ((last - place) / whole + 1)) v ↔ onP (l, s, c) v ∧ onP (b, w, m) v := by
  have hW : 0 < whole := by
    rw [eW, eL]
    exact Int.mul_pos (Int.mul_pos hg ha) hb
  obtain ⟨t, et⟩ := hx
  obtain ⟨p0, ep⟩ : ∃ p0, p0 = l + s * x := ⟨_, rfl⟩
  rw [← ep] at eP
  have eW2 : whole = s * b' := by rw [eW, eL, es]
  have eW3 : whole = w * a' := by rw [eW, eL, ew, Int.mul_assoc, Int.mul_assoc, Int.mul_comm a' b']
  have pb : p0 - b = w * t := by
    have : g * (a' * x - D) = g * (b' * t) := by rw [et]
    rw [Int.mul_sub, ← Int.mul_assoc, ← es, ← Int.mul_assoc, ← ew, ← eD] at this
    omega
  have key : ∀ v : Int, (s ∣ v - l ∧ w ∣ v - b) ↔ whole ∣ v - p0 := fun v => by
    constructor
    · rintro ⟨⟨i, ei⟩, ⟨j, ej⟩⟩
      rw [eW]
      refine lcm_dvd ⟨i - x, ?_⟩ ⟨j - t, ?_⟩
      · rw [Int.mul_sub]
        omega
      · rw [Int.mul_sub]
        omega
    · rintro ⟨k, ek⟩
      refine ⟨⟨x + b' * k, ?_⟩, ⟨t + a' * k, ?_⟩⟩
      · rw [Int.mul_add, ← Int.mul_assoc, ← eW2]
        omega
      · rw [Int.mul_add, ← Int.mul_assoc, ← eW3]
        omega
  obtain ⟨least, el⟩ : ∃ least, least = max l b := ⟨_, rfl⟩
  rw [← el] at eP
  have near : p0 - whole < least := by
    have : s * x ≤ s * (b' - 1) := Int.mul_le_mul_of_nonneg_left (by omega) (Int.le_of_lt hs)
    rw [Int.mul_sub, ← eW2, Int.mul_one] at this
    omega
  have fit : least ≤ place ∧ place - whole < least ∧ whole ∣ place - p0 := by
    by_cases h : p0 < least
    · rw [if_pos h] at eP
      obtain ⟨z, ez⟩ : ∃ z, z = (least - p0 + whole - 1) / whole := ⟨_, rfl⟩
      rw [← ez] at eP
      have q1 := Int.mul_ediv_add_emod (least - p0 + whole - 1) whole
      have q2 := Int.emod_nonneg (least - p0 + whole - 1) (Int.ne_of_gt hW)
      have q3 := Int.emod_lt_of_pos (least - p0 + whole - 1) hW
      rw [← ez, Int.mul_comm] at q1
      exact ⟨by omega, by omega, ⟨z, by rw [Int.mul_comm]; omega⟩⟩
    · rw [if_neg h] at eP
      subst eP
      exact ⟨by omega, near, ⟨0, by simp⟩⟩
  obtain ⟨f1, f2, ⟨f, ef⟩⟩ := fit
  rw [onP_iff (p := (l, s, c)) hs, onP_iff (p := (b, w, m)) hw]
  show onP _ v ↔ (s ∣ v - l ∧ l ≤ v ∧ v ≤ l + s * (c - 1)) ∧ (w ∣ v - b ∧ b ≤ v ∧ v ≤ b + w * (m - 1))
  constructor
  · rintro ⟨k, k0, k1, e⟩
    have k1 : k < max 0 ((last - place) / whole + 1) := k1
    have e : place + whole * k = v := e
    have k2 : k ≤ (last - place) / whole := by omega
    have k3 := (Int.le_ediv_iff_mul_le hW).mp k2
    rw [Int.mul_comm] at k3
    have k4 := Int.mul_nonneg (Int.le_of_lt hW) k0
    obtain ⟨d1, d2⟩ := (key v).mpr ⟨f + k, by rw [Int.mul_add]; omega⟩
    exact ⟨⟨d1, by omega, by omega⟩, d2, by omega, by omega⟩
  · rintro ⟨⟨d1, h1, h2⟩, d2, h3, h4⟩
    obtain ⟨k, ek⟩ := (key v).mp ⟨d1, d2⟩
    have k0 : 0 ≤ k - f := by
      have : whole * (-1) < whole * (k - f) := by
        rw [Int.mul_sub]
        omega
      have := Int.lt_of_mul_lt_mul_left this (Int.le_of_lt hW)
      omega
    refine ⟨k - f, k0, ?_, ?_⟩
    · show k - f < max 0 ((last - place) / whole + 1)
      have : k - f ≤ (last - place) / whole := by
        refine (Int.le_ediv_iff_mul_le hW).mpr ?_
        rw [Int.mul_comm, Int.mul_sub]
        omega
      omega
    · show place + whole * (k - f) = v
      rw [Int.mul_sub]
      omega
theorem meet_none {l s c b w m g a' b' : Int} (es : s = g * a') (ew : w = g * b') (h : c = 0 ∨ m = 0 ∨ ¬ g ∣ b - l) (v : Int) : ¬ (onP (l, s, c) v ∧ onP (b, w, m) v) := by
  rintro ⟨⟨i, i0, i1, ei⟩, ⟨j, j0, j1, ej⟩⟩
  have i1 : i < c := i1
  have j1 : j < m := j1
  have ei : l + s * i = v := ei
  have ej : b + w * j = v := ej
  rcases h with h | h | h
  · omega
  · omega
  · refine h ⟨a' * i - b' * j, ?_⟩
    rw [Int.mul_sub, ← Int.mul_assoc, ← Int.mul_assoc, ← es, ← ew]
    omega
/-! ### the same, found by looking at each place of one period -/
theorem both_iff {l s c b w m : Int} (hs : 0 < s) (hw : 0 < w) (v : Int) : (onP (l, s, c) v ∧ onP (b, w, m) v) ↔ (s ∣ v - l ∧ w ∣ v - b) ∧ max l b ≤ v ∧ v ≤ min (l + s * (c - 1)) (b + w * (m - 1)) := by
  rw [onP_iff (p := (l, s, c)) hs, onP_iff (p := (b, w, m)) hw]
  show (s ∣ v - l ∧ l ≤ v ∧ v ≤ l + s * (c - 1)) ∧ (w ∣ v - b ∧ b ≤ v ∧ v ≤ b + w * (m - 1)) ↔ _
  constructor
  · rintro ⟨⟨d1, h1, h2⟩, d2, h3, h4⟩
    exact ⟨⟨d1, d2⟩, by omega, by omega⟩
  · rintro ⟨⟨d1, d2⟩, h1, h2⟩
    exact ⟨⟨d1, by omega, by omega⟩, d2, by omega, by omega⟩
theorem dvd_lcm {s w : Int} : s ∣ lcmI s w ∧ w ∣ lcmI s w := by
  unfold lcmI
  constructor
  · refine Int.natAbs_dvd_natAbs.mp ?_
    rw [Int.natAbs_natCast]
    exact Nat.dvd_lcm_left _ _
  · refine Int.natAbs_dvd_natAbs.mp ?_
    rw [Int.natAbs_natCast]
    exact Nat.dvd_lcm_right _ _
theorem lcm_pos {s w : Int} (hs : 0 < s) (hw : 0 < w) : 0 < lcmI s w := by
  obtain ⟨g, a, b, hg, ha, hb, _, _, e, _⟩ := gcd_parts hs hw
  rw [e]
  exact Int.mul_pos (Int.mul_pos hg ha) hb
theorem look_none {l s c b w m : Int} (hs : 0 < s) (hw : 0 < w) (h : ∀ x, max l b ≤ x → x ≤ min (min (l + s * (c - 1)) (b + w * (m - 1))) (max l b + lcmI s w - 1) → ¬ (s ∣ x - l ∧ w ∣ x - b)) (v : Int) : ¬ (onP (l, s, c) v ∧ onP (b, w, m) v) := by
  rw [both_iff hs hw]
  rintro ⟨⟨d1, d2⟩, h1, h2⟩
  have hL := lcm_pos hs hw
  have q1 := Int.mul_ediv_add_emod (v - max l b) (lcmI s w)
  have q2 := Int.emod_nonneg (v - max l b) (Int.ne_of_gt hL)
  have q3 := Int.emod_lt_of_pos (v - max l b) hL
  obtain ⟨z, ez⟩ : ∃ z, z = (v - max l b) / lcmI s w := ⟨_, rfl⟩
  obtain ⟨y, ey⟩ : ∃ y, y = (v - max l b) % lcmI s w := ⟨_, rfl⟩
  rw [← ez, ← ey] at q1
  rw [← ey] at q2 q3
  have hz : 0 ≤ lcmI s w * z := by
    refine Int.mul_nonneg (Int.le_of_lt hL) ?_
    rw [ez]
    exact Int.ediv_nonneg (by omega) (Int.le_of_lt hL)
  refine h (max l b + y) (by omega) (by omega) ⟨?_, ?_⟩
  · have e : max l b + y - l = (v - l) - lcmI s w * z := by omega
    rw [e]
    exact Int.dvd_sub d1 (Int.dvd_mul_of_dvd_left dvd_lcm.1)
  · have e : max l b + y - b = (v - b) - lcmI s w * z := by omega
    rw [e]
    exact Int.dvd_sub d2 (Int.dvd_mul_of_dvd_left dvd_lcm.2)
theorem look_some {l s c b w m x : Int} (hs : 0 < s) (hw : 0 < w) (h1 : max l b ≤ x) (h2 : x ≤ min (min (l + s * (c - 1)) (b + w * (m - 1))) (max l b + lcmI s w - 1)) (d1 : s ∣ x - l) (d2 : w ∣ x - b) (v : Int) :
    onP (x, lcmI s w, (min (l + s * (c - 1)) (b + w * (m - 1)) - x) / lcmI s w + 1) v ↔ onP (l, s, c) v ∧ onP (b, w, m) v := by
  rw [both_iff hs hw]
  have hL := lcm_pos hs hw
  obtain ⟨u, eu⟩ : ∃ u, u = min (l + s * (c - 1)) (b + w * (m - 1)) := ⟨_, rfl⟩
  rw [← eu] at h2 ⊢
  constructor
  · rintro ⟨k, k0, k1, e⟩
    have k1 : k < (u - x) / lcmI s w + 1 := k1
    have e : x + lcmI s w * k = v := e
    have k3 := (Int.le_ediv_iff_mul_le hL).mp (show k ≤ (u - x) / lcmI s w by omega)
    rw [Int.mul_comm] at k3
    have k4 := Int.mul_nonneg (Int.le_of_lt hL) k0
    refine ⟨⟨?_, ?_⟩, by omega, by omega⟩
    · have e : v - l = (x - l) + lcmI s w * k := by omega
      rw [e]
      exact Int.dvd_add d1 (Int.dvd_mul_of_dvd_left dvd_lcm.1)
    · have e : v - b = (x - b) + lcmI s w * k := by omega
      rw [e]
      exact Int.dvd_add d2 (Int.dvd_mul_of_dvd_left dvd_lcm.2)
  · rintro ⟨⟨e1, e2⟩, h3, h4⟩
    obtain ⟨k, ek⟩ : lcmI s w ∣ v - x := by
      refine lcm_dvd ?_ ?_
      · have e : v - x = (v - l) - (x - l) := by omega
        rw [e]
        exact Int.dvd_sub e1 d1
      · have e : v - x = (v - b) - (x - b) := by omega
        rw [e]
        exact Int.dvd_sub e2 d2
    have k0 : 0 ≤ k := by
      have : lcmI s w * (-1) < lcmI s w * k := by omega
      have := Int.lt_of_mul_lt_mul_left this (Int.le_of_lt hL)
      omega
    refine ⟨k, k0, ?_, ?_⟩
    · show k < (u - x) / lcmI s w + 1
      have : k ≤ (u - x) / lcmI s w := by
        refine (Int.le_ediv_iff_mul_le hL).mpr ?_
        rw [Int.mul_comm]
        omega
      omega
    · show x + lcmI s w * k = v
      omega
theorem lcm_le {s w k : Int} (hs : 0 < s) (hw : 0 < w) (h1 : s ≤ k) (h2 : w ≤ k) : lcmI s w ≤ k * k := by
  obtain ⟨g, a, b, hg, ha, hb, es, ew, e, _⟩ := gcd_parts hs hw
  have hbw : b ≤ w := by
    have := Int.mul_le_mul_of_nonneg_right (show 1 ≤ g by omega) (Int.le_of_lt hb)
    omega
  rw [e, ← es]
  exact Int.mul_le_mul h1 (by omega) (by omega) (by omega)
/-- the empty set, told -/
theorem told_none {p : Pg} (hs : 0 < p.2.1) (h0 : 0 ≤ p.2.2) (h : ∀ v, ¬ onP p v) : cleaned p = (none, none, 0) := told_uniq (l := []) hs h0 .nil fun v => ⟨fun z => (h v z).elim, fun z => nomatch z⟩
/-- a sorted list without repeats -/
theorem strict_of {l m : List Int} (hp : m.Perm l) (hs : m.Pairwise (· ≤ ·)) (hn : l.Nodup) : m.Pairwise (· < ·) := by
  have h2 : m.Nodup := hp.nodup_iff.mpr hn
  exact (hs.and h2).imp fun {a b} h => Int.lt_iff_le_and_ne.mpr h
theorem plc_nodup {p : Pg} (h : p.2.1 ≠ 0) : (plc p).Nodup := by
  unfold plc
  show List.Pairwise _ _
  rw [List.pairwise_map]
  refine List.pairwise_lt_range.imp fun {i j} hl => ?_
  intro e
  have e2 : p.2.1 * (i : Int) = p.2.1 * (j : Int) := by omega
  have := Int.eq_of_mul_eq_mul_left h e2
  omega
end Sm

namespace Sc
open PySem PySem.Spec PyProof.Rows L2 Sm
local macro_rules | `(tactic| walk_at "wp") => `(tactic| simp only [dRevT, dRevL, dEnumT, qRepA, qRepL, qCatL, qIn, qNotIn, dListR1, dListR2, dRet, dSeq, dIfS, dNext, dDrop, dSet, dAsg, dPar, dPar3, dAug, dVar, dC, dOp, dUn, dTest, dTru, dNot, dAnd, dOr, dAndV, dOrV, dNotV, dIf, dChain, dCall, dCons, dNil, dCB, dTup, dLst, dIsi, dStore, kSub, dYes, dFor, dIt, dItL, dRng1, dRng2, dSl, dNoP, dPart, dMt, dRaise,
  qI, qI0, qAdd, qSub, qMul, qFdiv, qFdivN, qMod, qPow, qLt, qLe, qGt, qGe, qEq, qNe, qIsN, qNotN, qIsB, qNotB, qNeg, qAbs, qMax2, qMin2, qLen, qIx, qTupOf, qLstOf, qSlT, qSlL, qCatT, qRepT, kName, kTup, kCons, kNil, start2, List.map_cons, List.map_nil, List.length_cons, List.length_nil, List.replicate, List.cons_append, List.nil_append, List.append_nil,
  List.getElem?_cons_zero, List.getElem?_cons_succ, List.set_cons_zero, List.set_cons_succ, Option.some.injEq, exists_eq_left', exists_eq_left, Dt.int.injEq, Dt.bl.injEq, Dt.ref.injEq, Dt.tup.injEq, Dt.lst.injEq, Nat.sub_zero, Nat.zero_add, Nat.reduceAdd, Nat.reduceSub, asQ_tup, asQ_lst, asL_lst, asT_tup, asQ_put, asL_put, exists_and_left, List.cons.injEq, and_true, isN_int, isN_non, truD_int, truD_non, at_0, at_1, at_2, ix20, ix21, Cells.put_same, Cells.put_put, Cell.lst.injEq, sEq_ii, sEq_bb, sEq_ss, sEq_nn, sEq_ni, sEq_in, true_and, decide_eq_true_eq, and_assoc])

/-! ### the places that two chains share -/
def sp_rising : Sp2 := psp (α := Pg) (fun a => [dPg a]) (fun a => -1000000000 ≤ a.2.1 ∧ a.2.1 ≤ 1000000000) (fun a => dPg (riseF a))
def sp_inverse : Sp2 := rsp (α := Int × Int) (β := Int) (fun a => [.int a.1, .int a.2]) (fun a => 0 < a.1 ∧ 1 < a.2 ∧ a.2 ≤ 10 ^ 18 ∧ a.1.natAbs.gcd a.2.natAbs = 1) (fun a r => (0 ≤ r ∧ r < a.2) ∧ a.2 ∣ a.1 * r - 1) Dt.int
/-- r tells the places that p and q share -/
def Meets (p q r : Pg) : Prop := 0 < r.2.1 ∧ 0 ≤ r.2.2 ∧ ∀ v, onP r v ↔ onP p v ∧ onP q v
def sp_meeting : Sp2 := rsp (α := Pg × Pg) (β := Pg) (fun a => [dPg a.1, dPg a.2]) (fun a => (0 < a.1.2.1 ∧ a.1.2.1 ≤ 1000000000) ∧ (0 < a.2.2.1 ∧ a.2.2.1 ≤ 1000000000) ∧ 0 ≤ a.1.2.2 ∧ 0 ≤ a.2.2.2) (fun a r => Meets a.1 a.2 r) dPg
def sp_common_at : Sp2 := rsp (α := List Sl × List Sl × Int) (β := Pg) (fun a => [dCh a.1, dCh a.2.1, .int a.2.2]) (fun a => okC a.1 ∧ okC a.2.1 ∧ 0 ≤ a.2.2 ∧ a.2.2 ≤ 10 ^ 18) (fun a r => Meets (shown a.1 a.2.2) (shown a.2.1 a.2.2) r) dPg
def sp_common : Sp2 := rsp (α := List Sl × List Sl × Int) (β := Pg) (fun a => [dCh a.1, dCh a.2.1, .int a.2.2]) (fun a => okC a.1 ∧ okC a.2.1 ∧ 0 ≤ a.2.2 ∧ a.2.2 ≤ 1000000000000000) (fun a r => Meets (shown a.1 a.2.2) (shown a.2.1 a.2.2) r) (fun r => dCl (cleaned r))
def T_rising : TS2 :=
  (dSeq (dAsg (dVar 0) (kTup 3 (kCons (kName 1) (kCons (kName 2) (kCons (kName 3) kNil)))))
  (dSeq (dIfS (dTest (dOp qLt (dVar 3) (dC (.int 2)))) (dRet (dTup (dCons (dVar 1) (dCons (dC (.int 1)) (dCons (dVar 3) dNil))))) dNext)
  (dRet (dIf (dTest (dOp qGt (dVar 2) (dC (.int 0)))) (dTup (dCons (dVar 1) (dCons (dVar 2) (dCons (dVar 3) dNil)))) (dTup (dCons (dOp qAdd (dVar 1) (dOp qMul (dVar 2) (dOp qSub (dVar 3) (dC (.int 1))))) (dCons (dOp qSub (dC (.int 0)) (dVar 2)) (dCons (dVar 3) dNil))))))))
theorem pure_rising : Pure 4 sp_rising T_rising := by
  rintro ds S Q E frg ⟨⟨f, s, c⟩, rfl, ⟨s1, s2⟩, q⟩
  have s1 : -1000000000 ≤ s := s1
  have s2 : s ≤ 1000000000 := s2
  have q : Q (dPg (riseF (f, s, c))) S := q
  unfold T_rising
  simp only [dPg_eq]
  walk_at "wp"
  unfold riseF at q
  refine ite2 (fun h => ?_) (fun h => ?_)
  · rw [if_pos h] at q
    exact ⟨by decide, q⟩
  · rw [if_neg h] at q
    refine ite2 (fun h2 => ?_) (fun h2 => ?_)
    · rw [if_pos h2] at q
      exact ⟨by decide, q⟩
    · rw [if_neg h2] at q
      exact ⟨.inl ⟨by omega, by omega⟩, by decide, q⟩
def T_inverse : TS2 :=
  (dSeq (dAsg (dTup (dCons (dOp qMod (dVar 0) (dVar 1)) (dCons (dVar 1) (dCons (dC (.int 1)) (dCons (dC (.int 0)) dNil))))) (kTup 4 (kCons (kName 2) (kCons (kName 3) (kCons (kName 4) (kCons (kName 5) kNil))))))
  (dSeq (dWhile (dTru (dVar 3)) (dSeq (dSet 6 (dOp qFdiv (dVar 2) (dVar 3)))
  (dSeq (dPar 2 3 (dCons (dVar 3) (dCons (dOp qSub (dVar 2) (dOp qMul (dVar 6) (dVar 3))) dNil)))
  (dPar 4 5 (dCons (dVar 5) (dCons (dOp qSub (dVar 4) (dOp qMul (dVar 6) (dVar 5))) dNil))))))
  (dRet (dOp qMod (dVar 4) (dVar 1)))))
theorem pure_inverse : Pure 7 sp_inverse T_inverse := by
  rintro ds S Q E frg ⟨⟨a, m⟩, rfl, ⟨ha, hm, hm2, hg⟩, q⟩
  have ha : 0 < a := ha
  have hm : 1 < m := hm
  have hm2 : m ≤ 10 ^ 18 := hm2
  have hg : a.natAbs.gcd m.natAbs = 1 := hg
  unfold T_inverse
  walk_at "wp"
  refine ⟨by omega, by decide, ?_⟩
  obtain ⟨o0, e0⟩ : ∃ o0 : Nat, a % m = (o0 : Int) := ⟨(a % m).toNat, by have := Int.emod_nonneg a (show m ≠ 0 by omega); omega⟩
  obtain ⟨n, en⟩ : ∃ n : Nat, m = (n : Int) := ⟨m.toNat, by omega⟩
  have lt0 := Int.emod_lt_of_pos a (show 0 < m by omega)
  have e1 := Int.mul_ediv_add_emod a m
  have g0 : o0.gcd n = 1 := by
    have h : (a % m).natAbs.gcd m.natAbs = 1 := by
      obtain ⟨an, ea⟩ : ∃ an : Nat, a = (an : Int) := ⟨a.toNat, by omega⟩
      rw [ea, en] at hg ⊢
      rw [← Int.natCast_emod]
      simp only [Int.natAbs_natCast] at hg ⊢
      rw [← Nat.gcd_rec n an, Nat.gcd_comm]
      exact hg
    rw [e0, en] at h
    simpa using h
  rw [e0] at lt0 e1
  rw [e0, en]
  rw [en] at lt0 e1 hm hm2 q
  refine wh_inv (fun (p : Nat × Nat × Int × Int) ds S' => S' = S ∧ p.1.gcd p.2.1 = 1 ∧ (p.1 ≤ n ∧ p.2.1 ≤ n) ∧ (n : Int) ∣ a * p.2.2.1 - p.1 ∧ (n : Int) ∣ a * p.2.2.2 - p.2.1 ∧ ∃ x6, ds = [some (.int a), some (.int n), some (.int p.1), some (.int p.2.1), some (.int p.2.2.1), some (.int p.2.2.2), x6]) (fun p => p.2.1) ?_ (a := (o0, n, 1, 0)) ?_
  · rintro ⟨x, y, u, v⟩ ds S' N ⟨rfl, hgc, ⟨b1, b2⟩, ⟨i, ei⟩, ⟨j, ej⟩, _, rfl⟩ hN
    walk_at "wp"
    have hgc : x.gcd y = 1 := hgc
    have b1 : x ≤ n := b1
    have b2 : y ≤ n := b2
    have ei : a * u - x = n * i := ei
    have ej : a * v - y = n * j := ej
    refine ite2 (fun h => ?_) (fun h => ?_)
    · have hy : 0 < y := by
        have : (y : Int) ≠ 0 := by simpa using h
        omega
      refine ⟨cdiv_of (by omega) (by omega), .inr ⟨by omega, by omega⟩, ?_⟩
      have q1 := Int.mul_ediv_add_emod (x : Int) (y : Int)
      have q2 : (x : Int) / y ≤ x := Int.ediv_le_self _ (by omega)
      have q3 : 0 ≤ (x : Int) / y := Int.ediv_nonneg (by omega) (by omega)
      have ey : (x : Int) - (x : Int) / y * y = ((x % y : Nat) : Int) := by
        rw [Int.natCast_emod, Int.mul_comm]
        omega
      rw [ey]
      refine ⟨.inl ⟨by omega, by omega⟩, hN (y, x % y, v, u - (x : Int) / y * v) _ _ (Nat.mod_lt _ hy) ⟨rfl, ?_, ⟨b2, by show x % y ≤ n; have := Nat.mod_lt x hy; omega⟩, ⟨j, ej⟩, ⟨i - (x : Int) / y * j, ?_⟩, _, rfl⟩⟩
      · show y.gcd (x % y) = 1
        rw [← hgc, Nat.gcd_comm x y, Nat.gcd_rec y x, Nat.gcd_comm]
      · show a * (u - (x : Int) / y * v) - ((x % y : Nat) : Int) = n * (i - (x : Int) / y * j)
        rw [← ey]
        have z1 : a * ((x : Int) / y * v) = (x : Int) / y * (a * v) := by rw [Int.mul_left_comm]
        have z2 : (n : Int) * ((x : Int) / y * j) = (x : Int) / y * (n * j) := by rw [Int.mul_left_comm]
        have z3 : (x : Int) / y * (a * v) = (x : Int) / y * (n * j) + (x : Int) / y * y := by
          rw [← Int.mul_add]
          congr 1
          omega
        rw [Int.mul_sub, Int.mul_sub, z1, z2, z3]
        omega
    · have hy : y = 0 := by
        have : (y : Int) = 0 := by simpa using h
        omega
      subst hy
      have hx : x = 1 := by
        rw [Nat.gcd_zero_right] at hgc
        exact hgc
      subst hx
      have m0 := Int.emod_nonneg u (show (n : Int) ≠ 0 by omega)
      have m1 := Int.emod_lt_of_pos u (show 0 < (n : Int) by omega)
      refine ⟨by omega, q (u % n) ⟨⟨m0, m1⟩, ?_⟩⟩
      have m2 := Int.mul_ediv_add_emod u n
      refine ⟨i - a * (u / n), ?_⟩
      show a * (u % n) - 1 = n * (i - a * (u / n))
      have z : u % n = u - n * (u / n) := by omega
      rw [z, Int.mul_sub, Int.mul_sub, Int.mul_left_comm]
      have ei : a * u - 1 = n * i := ei
      omega
  · refine ⟨rfl, g0, ⟨by show o0 ≤ n; omega, Nat.le_refl n⟩, ⟨a / n, by show a * 1 - (o0 : Int) = n * (a / n); omega⟩, ⟨-1, by show a * 0 - (n : Int) = n * (-1); omega⟩, _, rfl⟩
def T_meeting : TS2 :=
  (dSeq (dAsg (dVar 0) (kTup 3 (kCons (kName 2) (kCons (kName 3) (kCons (kName 4) kNil)))))
  (dSeq (dAsg (dVar 1) (kTup 3 (kCons (kName 5) (kCons (kName 6) (kCons (kName 7) kNil)))))
  (dSeq (dSet 8 (dCall sp_common_multiple (dCons (dVar 3) (dCons (dVar 6) dNil))))
  (dSeq (dSet 9 (dOp qFdiv (dOp qMul (dVar 3) (dVar 6)) (dVar 8)))
  (dSeq (dIfS (dOr (dTest (dOp qEq (dVar 4) (dC (.int 0)))) (dOr (dTest (dOp qEq (dVar 7) (dC (.int 0)))) (dTest (dOp qNe (dOp qMod (dOp qSub (dVar 5) (dVar 2)) (dVar 9)) (dC (.int 0)))))) (dRet (dTup (dCons (dC (.int 0)) (dCons (dC (.int 1)) (dCons (dC (.int 0)) dNil))))) dNext)
  (dSeq (dSet 10 (dOp qFdiv (dVar 6) (dVar 9)))
  (dSeq (dSet 11 (dIf (dTest (dOp qGt (dVar 10) (dC (.int 1)))) (dOp qMod (dOp qMul (dOp qFdiv (dOp qSub (dVar 5) (dVar 2)) (dVar 9)) (dCall sp_inverse (dCons (dOp qFdiv (dVar 3) (dVar 9)) (dCons (dVar 10) dNil)))) (dVar 10)) (dC (.int 0))))
  (dSeq (dSet 12 (dOp qAdd (dVar 2) (dOp qMul (dVar 3) (dVar 11))))
  (dSeq (dPar 13 14 (dCons (dCB qMax2 (dCons (dVar 2) (dCons (dVar 5) dNil))) (dCons (dCB qMin2 (dCons (dOp qAdd (dVar 2) (dOp qMul (dVar 3) (dOp qSub (dVar 4) (dC (.int 1))))) (dCons (dOp qAdd (dVar 5) (dOp qMul (dVar 6) (dOp qSub (dVar 7) (dC (.int 1))))) dNil))) dNil)))
  (dSeq (dIfS (dTest (dOp qLt (dVar 12) (dVar 13))) (dAug 12 qAdd (dOp qMul (dOp qFdiv (dOp qSub (dOp qAdd (dOp qSub (dVar 13) (dVar 12)) (dVar 8)) (dC (.int 1))) (dVar 8)) (dVar 8))) dNext)
  (dRet (dTup (dCons (dVar 12) (dCons (dVar 8) (dCons (dCB qMax2 (dCons (dC (.int 0)) (dCons (dOp qAdd (dOp qFdiv (dOp qSub (dVar 14) (dVar 12)) (dVar 8)) (dC (.int 1))) dNil))) dNil)))))))))))))))
theorem pure_meeting : Pure 15 sp_meeting T_meeting := by
  rintro ds S Q E frg ⟨⟨⟨l, s, c⟩, b, w, m⟩, rfl, ⟨⟨hs, hs2⟩, ⟨hw, hw2⟩, hc, hm⟩, q⟩
  have hs : 0 < s := hs
  have hs2 : s ≤ 1000000000 := hs2
  have hw : 0 < w := hw
  have hw2 : w ≤ 1000000000 := hw2
  have hc : 0 ≤ c := hc
  have hm : 0 ≤ m := hm
  unfold T_meeting
  simp only [dPg_eq]
  walk_at "wp"
  refine ⟨(s, w), rfl, ⟨hs, hw, hs2, hw2⟩, .inl ⟨by omega, by omega⟩, _, rfl, ?_⟩
  obtain ⟨g, a, b', hg, ha, hb, es, ew, eL, eg, hgc⟩ := gcd_parts hs hw
  have hL : 0 < lcmI s w := by
    rw [eL]
    exact Int.mul_pos (Int.mul_pos hg ha) hb
  have hL2 : lcmI s w ≤ 10 ^ 18 := by
    have z : lcmI s w = s * b' := by rw [eL, es]
    have hbw : b' ≤ w := by
      have := Int.mul_le_mul_of_nonneg_right (show 1 ≤ g by omega) (Int.le_of_lt hb)
      omega
    have z1 : s * b' ≤ 1000000000 * b' := Int.mul_le_mul_of_nonneg_right hs2 (Int.le_of_lt hb)
    omega
  have ea : s / g = a := by rw [es, Int.mul_ediv_cancel_left _ (by omega)]
  have eb : w / g = b' := by rw [ew, Int.mul_ediv_cancel_left _ (by omega)]
  refine ⟨cdiv_of hL hL2, ?_⟩
  dsimp only
  simp only [eg, ea, eb]
  have none : (c = 0 ∨ m = 0 ∨ ¬ g ∣ b - l) → Q (.tup [.int 0, .int 1, .int 0]) S := fun h => q (0, 1, 0) ⟨by show (0 : Int) < 1; decide, by show (0 : Int) ≤ 0; decide, fun v => ⟨fun ⟨k, k0, k1, _⟩ => by have k1 : k < 0 := k1; omega, fun z => (meet_none es ew h v z).elim⟩⟩
  have hg9 : g ≤ 1000000000 := by
    have := Int.mul_le_mul_of_nonneg_left (show 1 ≤ a by omega) (Int.le_of_lt hg)
    omega
  have cg : ∀ i : Int, CDivW i g := fun i => cdiv_of hg (by omega)
  refine ite2 (fun h1 => iteP trivial ⟨by decide, none (.inl h1)⟩) (fun h1 => ?_)
  refine ite2 (fun h2 => iteP trivial ⟨by decide, none (.inr (.inl h2))⟩) (fun h2 => ?_)
  refine ⟨hg, ite2 (fun h3 => ⟨by decide, none (.inr (.inr fun z => ?_))⟩) (fun h3 => ?_)⟩
  · exact (by simpa using h3 : ¬ (b - l) % g = 0) (Int.emod_eq_zero_of_dvd z)
  have h3 : (b - l) % g = 0 := by simpa using h3
  have eD : b - l = g * ((b - l) / g) := (Int.mul_ediv_cancel' (Int.dvd_of_emod_eq_zero h3)).symm
  refine ⟨cg _, ite2 (fun h4 => ⟨cg _, cg _, (a, b'), rfl, ⟨ha, h4, ?_, hgc⟩, fun iv hiv => ?_⟩) (fun h4 => ?_)⟩
  · have hbw : b' ≤ w := by
      have := Int.mul_le_mul_of_nonneg_right (show 1 ≤ g by omega) (Int.le_of_lt hb)
      omega
    show b' ≤ 10 ^ 18
    omega
  · obtain ⟨⟨i0, i1⟩, i2⟩ := hiv
    have i0 : 0 ≤ iv := i0
    have i1 : iv < b' := i1
    have i2 : b' ∣ a * iv - 1 := i2
    have ivw : iv ≤ 1000000000 := by
      have := Int.mul_le_mul_of_nonneg_right (show 1 ≤ g by omega) (Int.le_of_lt hb)
      omega
    refine ⟨iv, rfl, .inr ⟨by omega, by omega⟩, hb, ?_⟩
    have xd0 : b' ∣ a * ((b - l) / g * iv % b') - (b - l) / g := by
      obtain ⟨j, ej⟩ := i2
      have m2 := Int.mul_ediv_add_emod ((b - l) / g * iv) b'
      obtain ⟨D, eDD⟩ : ∃ D, D = (b - l) / g := ⟨_, rfl⟩
      rw [← eDD] at m2 ⊢
      refine ⟨D * j - a * (D * iv / b'), ?_⟩
      have z : D * iv % b' = D * iv - b' * (D * iv / b') := by omega
      have z2 : D * (a * iv - 1) = D * (b' * j) := by rw [ej]
      rw [Int.mul_sub, Int.mul_one] at z2
      have z3 : a * (D * iv) = D * (a * iv) := Int.mul_left_comm ..
      have z4 : b' * (D * j) = D * (b' * j) := Int.mul_left_comm ..
      have z5 : b' * (a * (D * iv / b')) = a * (b' * (D * iv / b')) := Int.mul_left_comm ..
      rw [z, Int.mul_sub, Int.mul_sub, z3, z4, z5]
      omega
    obtain ⟨x, ex⟩ : ∃ x, x = (b - l) / g * iv % b' := ⟨_, rfl⟩
    rw [← ex] at xd0
    simp only [← ex]
    have xn := Int.emod_nonneg ((b - l) / g * iv) (show b' ≠ 0 by omega)
    have xl := Int.emod_lt_of_pos ((b - l) / g * iv) hb
    rw [← ex] at xn xl
    clear ex

    have x0 : 0 ≤ x := xn
    have x1 : x < b' := xl
    have xw : x ≤ 1000000000 := by
      have := Int.mul_le_mul_of_nonneg_right (show 1 ≤ g by omega) (Int.le_of_lt hb)
      omega
    have xd : b' ∣ a * x - (b - l) / g := xd0
    refine ⟨.inl ⟨by omega, by omega⟩, .inl ⟨by omega, by omega⟩, .inl ⟨by omega, by omega⟩, ?_⟩
    simp only [max_if, min_if]
    refine ite2 (fun h6 => ?_) (fun h6 => ?_)
    · refine ⟨_, rfl, _, rfl, cdiv_of hL hL2, _, rfl, .inr ⟨by omega, by omega⟩, _, rfl, cdiv_of hL hL2, by decide, ?_⟩
      exact q (_, _, _) ⟨hL, Int.le_max_left _ _, fun v => meet_on hs hw hg ha hb es ew eL x0 x1 _ eD xd _ _ _ rfl (if_pos h6).symm rfl v⟩
    · refine ⟨_, rfl, cdiv_of hL hL2, by decide, ?_⟩
      exact q (_, _, _) ⟨hL, Int.le_max_left _ _, fun v => meet_on hs hw hg ha hb es ew eL x0 x1 _ eD xd _ _ _ rfl (if_neg h6).symm rfl v⟩
  · have hb1 : b' = 1 := by omega
    have xd0 : b' ∣ a * 0 - (b - l) / g := ⟨-((b - l) / g), by rw [hb1]; omega⟩

    have x0 : (0 : Int) ≤ 0 := Int.le_refl _
    have x1 : (0 : Int) < b' := hb
    have xw : (0 : Int) ≤ 1000000000 := by
      have := Int.mul_le_mul_of_nonneg_right (show 1 ≤ g by omega) (Int.le_of_lt hb)
      omega
    have xd : b' ∣ a * 0 - (b - l) / g := xd0
    refine ⟨.inl ⟨by omega, by omega⟩, .inl ⟨by omega, by omega⟩, .inl ⟨by omega, by omega⟩, ?_⟩
    simp only [max_if, min_if]
    refine ite2 (fun h6 => ?_) (fun h6 => ?_)
    · refine ⟨_, rfl, _, rfl, cdiv_of hL hL2, _, rfl, .inr ⟨by omega, by omega⟩, _, rfl, cdiv_of hL hL2, by decide, ?_⟩
      exact q (_, _, _) ⟨hL, Int.le_max_left _ _, fun v => meet_on hs hw hg ha hb es ew eL x0 x1 _ eD xd _ _ _ rfl (if_pos h6).symm rfl v⟩
    · refine ⟨_, rfl, cdiv_of hL hL2, by decide, ?_⟩
      exact q (_, _, _) ⟨hL, Int.le_max_left _ _, fun v => meet_on hs hw hg ha hb es ew eL x0 x1 _ eD xd _ _ _ rfl (if_neg h6).symm rfl v⟩
def T_common_at : TS2 :=
  (dRet (dCall sp_meeting (dCons (dCall sp_rising (dCons (dCall sp_shown_by (dCons (dVar 0) (dCons (dVar 2) dNil))) dNil)) (dCons (dCall sp_rising (dCons (dCall sp_shown_by (dCons (dVar 1) (dCons (dVar 2) dNil))) dNil)) dNil))))
theorem rise_le {p : Pg} {k : Int} (h : -k ≤ p.2.1 ∧ p.2.1 ≤ k) (hk : 1 ≤ k) : (riseF p).2.1 ≤ k := by
  unfold riseF
  split
  · exact hk
  · split
    · exact h.2
    · show 0 - p.2.1 ≤ k
      omega
theorem pure_common_at : Pure 3 sp_common_at T_common_at := by
  rintro ds S Q E frg ⟨⟨c, d, n⟩, rfl, ⟨hc, hd, h0, h1⟩, q⟩
  have hc : okC c := hc
  have hd : okC d := hd
  have h0 : 0 ≤ n := h0
  have h1 : n ≤ 10 ^ 18 := h1
  have s1 := shown_step hc n
  have s2 := shown_step hd n
  have i1 := shown_in hc h0
  have i2 := shown_in hd h0
  unfold T_common_at
  walk_at "wp"
  refine ⟨(c, n), rfl, ⟨hc.2, h0, h1⟩, shown c n, rfl, ⟨by omega, by omega⟩, (d, n), rfl, ⟨hd.2, h0, h1⟩, shown d n, rfl, ⟨by omega, by omega⟩, (riseF (shown c n), riseF (shown d n)), rfl, ⟨⟨rise_pos s1.1, rise_le (k := 1000000000) ⟨by omega, by omega⟩ (by decide)⟩, ⟨rise_pos s2.1, rise_le (k := 1000000000) ⟨by omega, by omega⟩ (by decide)⟩, ?_, ?_⟩, fun r hr => q r ?_⟩
  · show 0 ≤ (riseF (shown c n)).2.2
    rw [rise_count]
    exact i1.1
  · show 0 ≤ (riseF (shown d n)).2.2
    rw [rise_count]
    exact i2.1
  · exact ⟨hr.1, hr.2.1, fun v => (hr.2.2 v).trans (and_congr rise_on rise_on)⟩
def T_common : TS2 :=
  (dSeq (dDrop (dCall sp_require_both (dCons (dVar 0) (dCons (dVar 1) dNil))))
  (dSeq (dDrop (dCall sp_require_length (dCons (dVar 2) (dCons (dC (.int 1000000000000000)) dNil))))
  (dRet (dCall sp_cleaned (dCons (dCall sp_common_at (dCons (dVar 0) (dCons (dVar 1) (dCons (dVar 2) dNil)))) dNil)))))
theorem pure_common : Pure 3 sp_common T_common := by
  rintro ds S Q E frg ⟨⟨c, d, n⟩, rfl, ⟨hc, hd, h0, h1⟩, q⟩
  have hc : okC c := hc
  have hd : okC d := hd
  have h0 : 0 ≤ n := h0
  have h1 : n ≤ 1000000000000000 := h1
  unfold T_common
  walk_at "wp"
  exact ⟨(c, d), rfl, ⟨hc, hd⟩, (.int n, 1000000000000000), rfl, len_req h0 h1, (c, d, n), rfl, ⟨hc, hd, h0, by show n ≤ 10 ^ 18; omega⟩, fun r hr => ⟨r, rfl, trivial, q r hr⟩⟩
end Sc

/-! sorted of a list of ints -/
namespace Sc
open PySem PySem.Spec PyProof.Rows L2 Sm
section
variable {X : Cx}
def qSortI : QC := fun ds S Q => ∃ (d : Dt) (ns : List Int), ds = [d] ∧ asL S d = some (ns.map Dt.int) ∧ ∀ ms : List Int, ms.Perm ns → ms.Pairwise (· ≤ ·) → newL (ms.map Dt.int) S Q
theorem c_sortI : C2 X (.builtin "sorted") qSortI := ⟨fun ds S Q Q' hq ⟨d, es, e, h, q⟩ => ⟨d, es, e, h, fun ms h1 h2 => newL.mono hq (q ms h1 h2)⟩, _, cr_sortedI, fun ds vs S H Q w r ⟨d, ns, e, h, q⟩ => by
  subst e
  obtain ⟨u, e1, r1⟩ := rps1 r
  obtain ⟨a, xs, e2, h1, h2⟩ := asL_ok w r1 h
  subst e2
  rw [h2.ints] at h1
  exact ⟨a, ns, e1, h1, fun ms p h3 h4 hp => newL.run ⟨Same.refl _, w⟩ (Rps.of_ints ms) (q ms h3 h4) hp⟩⟩
end
end Sc

/-! sorted of a list of data; x in a list of data; l += m -/
namespace Sc
open PySem PySem.Spec PyProof.Rows L2 Sm
section
variable {X : Cx}
/-- sorted(xs): each item a value with the data that it reads as -/
def rSortD (K : PySem.W.Frag) : List V → Hp → VK → Prop := fun vs H Q => ∃ (a : Addr) (bs : List (V × Dt)), vs = [.ref a] ∧ SqL K H a (bs.map (·.1)) ∧ (∀ b, b ∈ bs → Dp K H b.1 (py b.2)) ∧ PySem.W.AllAlike (bs.map fun b => py b.2) ∧ PySem.W.Sortable (bs.map fun b => py b.2) ∧ (∀ b, b ∈ bs → (py b.2).depth ≤ 60) ∧
  ∀ p, H p = none → Q (.ref p) (upd H p (.lst ((bs.mergeSort (PySem.W.dataLe false fun b => py b.2)).map (·.1))))
theorem each_vals : ∀ {bs : List (V × Dt)} {its : List Value}, Vals (bs.map (·.1)) its → PySem.W.EachIs (fun v (b : V × Dt) => RelV b.1 v) its bs
  | [], _, h => by cases h; exact .nil
  | b :: bs, _, h => by
    cases h with
    | cons r t => exact .cons r (each_vals t)
theorem vals_each : ∀ {bs : List (V × Dt)} {its : List Value}, PySem.W.EachIs (fun v (b : V × Dt) => RelV b.1 v) its bs → Vals (bs.map (·.1)) its
  | _, _, .nil => .nil
  | _, _, .cons r t => .cons r (vals_each t)
theorem each_reads {pins : List (Addr × Obj)} {σ : L2.St} {H : Hp} {s : Shared} (I : Inv X pins σ H s) : ∀ {bs : List (V × Dt)} {its : List Value}, (∀ b, b ∈ bs → Dp X.K H b.1 (py b.2)) → PySem.W.EachIs (fun v (b : V × Dt) => RelV b.1 v) its bs → PySem.W.EachIs (fun v (b : V × Dt) => ∃ as, Reads s.heap v (py b.2) as) its bs
  | _, _, _, .nil => .nil
  | _, _, h, .cons r t => .cons (Dp.reads I _ _ _ (h _ List.mem_cons_self) r) (each_reads I (fun b hb => h b (List.mem_cons_of_mem _ hb)) t)
theorem cr_sortD (hu : X.A.units + 64 < cLine) : CallR X (.builtin "sorted") (rSortD X.K) := by
  intro pins s σ H vs us Q I r h
  obtain ⟨a, bs, rfl, hs, hd, hal, hso, hdp, q⟩ := h
  obtain ⟨its, rv, hl, hz⟩ := I.list hs
  rw [Vals.ref1 r]
  have e := each_vals rv
  refine PySem.W.sorted_data (R := fun v (b : V × Dt) => RelV b.1 v) (enc := fun b => py b.2) hl.isList e (each_reads I hd e) hal hso (by rw [List.length_map] at hz; exact hz) (fun b hb => by have := hdp b hb; omega) fun out ho eo => ?_
  obtain ⟨ep, he'⟩ := PyProof.Rows.sortedAll_at s.heap its (List.toArray out)
  have hlen : ((bs.mergeSort (PySem.W.dataLe false fun b => py b.2)).map (·.1)).length ≤ sizeLine := by
    rw [List.length_map, List.length_mergeSort]
    rw [List.length_map] at hz
    exact hz
  exact ⟨.ref _, upd H (s.heap.objs.size + 1) (.lst ((bs.mergeSort (PySem.W.dataLe false fun b => py b.2)).map (·.1))), I.laid (t' := s.toks) (fun _ _ => PyProof.Rows.sortedAll_old) (Nat.le_succ _) ⟨hlen, out, ep, vals_each eo, he'⟩, rfl, q _ (I.hok.fresh (Nat.le_succ _))⟩
/-- sorted(xs), data -/
def qSortD : QC := fun ds S Q => ∃ (d : Dt) (es : List Dt), ds = [d] ∧ asL S d = some es ∧ (∀ e, e ∈ es → Ok0 60 e) ∧ PySem.W.AllAlike (es.map py) ∧ PySem.W.Sortable (es.map py) ∧ newL (es.mergeSort (PySem.W.dataLe false py)) S Q
theorem rps_zip {K : PySem.W.Frag} {I : Hp} : ∀ {ds : List Dt} {xs : List V}, Rps K I ds xs → (xs.zip ds).map (·.1) = xs ∧ (xs.zip ds).map (·.2) = ds ∧ ∀ b, b ∈ xs.zip ds → Rp K I b.2 b.1
  | [], _, h => by cases (show _ = [] from h); exact ⟨rfl, rfl, fun b hb => nomatch hb⟩
  | d :: ds, _, h => by
    obtain ⟨v, us, e, h1, h2⟩ := h
    subst e
    obtain ⟨a1, a2, a3⟩ := rps_zip h2
    refine ⟨by rw [List.zip_cons_cons, List.map_cons, a1], by rw [List.zip_cons_cons, List.map_cons, a2], fun b hb => ?_⟩
    rcases List.mem_cons.mp hb with e | hb
    · subst e
      exact h1
    · exact a3 b hb
theorem rps_maps {K : PySem.W.Frag} {I : Hp} : ∀ {bs : List (V × Dt)}, (∀ b, b ∈ bs → Rp K I b.2 b.1) → Rps K I (bs.map (·.2)) (bs.map (·.1))
  | [], _ => rfl
  | b :: bs, h => ⟨b.1, bs.map (·.1), rfl, h b List.mem_cons_self, rps_maps fun c hc => h c (List.mem_cons_of_mem _ hc)⟩
theorem c_sortD (hu : X.A.units + 64 < cLine) : C2 X (.builtin "sorted") qSortD := ⟨fun ds S Q Q' hq ⟨d, es, e, h, o, h1, h2, q⟩ => ⟨d, es, e, h, o, h1, h2, newL.mono hq q⟩, _, cr_sortD hu, fun ds vs S H Q w r ⟨d, es, e, h, o, hal, hso, q⟩ => by
  subst e
  obtain ⟨u, e1, r1⟩ := rps1 r
  obtain ⟨a, xs, e2, h1, h2⟩ := asL_ok w r1 h
  subst e2
  obtain ⟨z1, z2, z3⟩ := rps_zip h2
  have zm : ∀ b, b ∈ xs.zip es → b.2 ∈ es := fun b hb => by
    rw [← z2]
    exact List.mem_map_of_mem hb
  have ez : (xs.zip es).map (fun b => py b.2) = es.map py := by
    rw [← z2, List.map_map, z2]
    rfl
  refine ⟨a, xs.zip es, e1, by rw [z1]; exact h1, fun b hb => Rp.dp wo_le (o _ (zm b hb)) (z3 b hb), by rw [ez]; exact hal, by rw [ez]; exact hso, fun b hb => (o _ (zm b hb)).depth, fun p hp => ?_⟩
  have em : ((xs.zip es).mergeSort (PySem.W.dataLe false fun b => py b.2)).map (·.2) = es.mergeSort (PySem.W.dataLe false py) :=
    (List.map_mergeSort (r := PySem.W.dataLe false fun b : V × Dt => py b.2) (s := PySem.W.dataLe false py) (f := fun b : V × Dt => b.2) (l := xs.zip es) (fun a _ b _ => rfl)).trans (by rw [z2])
  refine newL.run ⟨Same.refl _, w⟩ ?_ q hp
  rw [← em]
  exact rps_maps fun b hb => z3 b ((List.mergeSort_perm _ _).mem_iff.mp hb)⟩
/-- x in a list of data -/
def qInD : QO := fun d e S Q => ∃ es, asL S e = some es ∧ (∃ n, n ≤ 60 ∧ Ok0 n d) ∧ (∀ z, z ∈ es → Ok0 60 z) ∧ ∀ b : Bool, (b = true ↔ d ∈ es) → Q (.bl b) S
theorem any_mem {n : Nat} {d : Dt} (hd : Ok0 n d) : ∀ {es : List Dt}, (∀ z, z ∈ es → Ok0 60 z) → ((pys es).any (fun z => PyData.eqv z (py d)) = true ↔ d ∈ es)
  | [], _ => by simp [pys]
  | e :: es, h => by
    rw [pys, List.any_cons, Bool.or_eq_true, any_mem hd fun z hz => h z (List.mem_cons_of_mem _ hz), (h e List.mem_cons_self).eqv hd, List.mem_cons]
    exact ⟨fun z => z.imp (fun e => e.symm) id, fun z => z.imp (fun e => e.symm) id⟩
theorem o_inD (hu : X.A.units + 65 < cLine) : O2 X (compareOp .In) qInD := ⟨fun d e S Q Q' hq ⟨es, h1, h2, h3, q⟩ => ⟨es, h1, h2, h3, fun b hb => hq _ _ (q b hb)⟩, _, op_inD hu, fun d e v u S H Q w r1 r2 ⟨es, h1, ⟨n, hn, h2⟩, h3, q⟩ => by
  obtain ⟨a, xs, e1, k1, k2⟩ := asL_ok w r2 h1
  subst e1
  have ol : Ok0 61 (.lst es) := .lst h3
  have dl : Dp X.K H (.ref a) (py (.lst es)) := by
    rw [py]
    exact .lst k1 (Rps.dp wo_le (fun z hz => ⟨_, h3 z hz⟩) k2)
  have sl := ol.shaped (by decide)
  rw [py] at dl sl
  exact ⟨_, _, Rp.dp wo_le h2 r1, dl, h2.shaped (by omega), sl, q _ (any_mem h2 h3) _ H ⟨Same.refl _, w⟩ rfl⟩⟩
/-- l += m, both lists that may change -/
def qExtL : QO := fun d e S Q => ∃ a b ds es, d = .ref a ∧ e = .ref b ∧ S a = some (.lst ds) ∧ S b = some (.lst es) ∧ ds.length + es.length ≤ 100000 ∧ Q (.ref a) (S.put a (.lst (ds ++ es)))
theorem o_iaddL : O2 X (inplaceOp .Add) qExtL := ⟨fun d e S Q Q' hq ⟨a, b, ds, es, h1, h2, h3, h4, h5, q⟩ => ⟨a, b, ds, es, h1, h2, h3, h4, h5, hq _ _ q⟩, _, iop_ext, fun d e v u S H Q w r1 r2 ⟨a, b, ds, es, h1, h2, h3, h4, h5, q⟩ => by
  subst h1 h2
  obtain ⟨xs, k1, k2⟩ := w a _ h3
  obtain ⟨ys, k3, k4⟩ := w b _ h4
  have hS : S a ≠ none ∨ H a = none := .inl (by rw [h3]; intro z; cases z)
  cases (show v = _ from r1)
  cases (show u = _ from r2)
  refine ⟨a, b, xs, ys, rfl, rfl, k1, k3, by rw [k2.length, k4.length]; exact size_le h5, q _ _ ⟨?_, put_wd w hS ⟨_, upd_same, k2.app k4⟩⟩ rfl⟩
  rw [put_wo _ hS]
  exact Same.refl _⟩
end
end Sc

/-! a comprehension over a list that may change, though not while it is gone through -/
namespace Sc
open PySem PySem.Spec PyProof.Rows L2 Sm
def YieldsC (K : PySem.W.Frag) (J : It) (a : Addr) (items : List Dt) (S1 : Cells) (H1 : Hp) : Prop := ∀ S H, Step K S1 H1 S H → S a = some (.lst items) →
  (∀ i, i < items.length → J.go i H) ∧ (∀ i, items.length ≤ i → J.stop i H) ∧ ∀ i v H' d, J.yld i H v H' → items[i]? = some d → Step K S H S H' ∧ Rp K (wo S H') d v
section
variable {X : Cx} {W : WX} {a b c e elt : Expr} {es : List Expr} {Ta Tb Tc Te : TE2} {Tt Tu : TT2} {TA : TA2} {pos : Pos} {st : Stmt} {rest body : List Stmt} {T U : TS2}
def dItC (Te : TE2) : XK2 → Ds → Cells → (Addr → List Dt → Cells → Prop) → Prop := fun x ds S Q => Te x ds S fun d S1 => ∃ q es, d = .ref q ∧ S1 q = some (.lst es) ∧ Q q es S1
def dCompC (G : TG2) (Tt : TT2) (Te : TE2) (p : Addr) (ds : Ds) (Q : QE) (q : Addr) (its : List Dt) : List Dt → List Dt → Cells → Prop
  | [], acc, S => S q = some (.lst its) ∧ S p = some (.lst acc) ∧ (Q (.lst acc) (S.del p) ∨ Q (.ref p) S)
  | d :: r, acc, S => S q = some (.lst its) ∧ G d ds S fun ds2 S2 => Tt x0 ds2 S2 fun k S3 => if k = true then Te x0 ds2 S3 fun y S4 => S4 p = some (.lst acc) ∧ acc.length < 100000 ∧ dCompC G Tt Te p ds Q q its r (acc ++ [y]) (S4.put p (.lst (acc ++ [y]))) else dCompC G Tt Te p ds Q q its r acc S3
theorem dCompC.mono {G : TG2} (gm : ∀ d ds S Q Q', (∀ d S', Q d S' → Q' d S') → G d ds S Q → G d ds S Q') (tm : ∀ x ds S Q Q', (∀ d S', Q d S' → Q' d S') → Tt x ds S Q → Tt x ds S Q') (em : ∀ x ds S Q Q', (∀ d S', Q d S' → Q' d S') → Te x ds S Q → Te x ds S Q')
    {p : Addr} {ds : Ds} {Q Q' : QE} {q : Addr} {its : List Dt} (h : ∀ d S', Q d S' → Q' d S') : ∀ items acc S, dCompC G Tt Te p ds Q q its items acc S → dCompC G Tt Te p ds Q' q its items acc S
  | [], acc, S, ⟨e0, e, z⟩ => ⟨e0, e, z.imp (h _ _) (h _ _)⟩
  | d :: r, acc, S, ⟨e0, z⟩ => ⟨e0, gm _ _ _ _ _ (fun ds2 S2 q2 => tm _ _ _ _ _ (fun k S3 q3 => ite_mono q3 (fun q3 => em _ _ _ _ _ (fun y S4 q4 => ⟨q4.1, q4.2.1, dCompC.mono gm tm em h r _ _ q4.2.2⟩) q3) (fun q3 => dCompC.mono gm tm em h r _ _ q3)) q2) z⟩
def dLcC (Te0 : TE2) (G : TG2) (Tt : TT2) (Te : TE2) : TE2 := fun x ds S Q => dItC Te0 x ds S fun q items S1 => ∀ p, S1 p = none → dCompC G Tt Te p ds Q q items items [] (S1.put p (.lst []))
theorem lcC_lift {g : TG} {G : TG2} {vs : List Nat} {ta : TE} (hG : CG2 X.K vs g G) (tm : ∀ x ds S Q Q', (∀ d S', Q d S' → Q' d S') → Tt x ds S Q → Tt x ds S Q') (em : ∀ x ds S Q Q', (∀ d S', Q d S' → Q' d S') → Te x ds S Q → Te x ds S Q')
    (im : ∀ x ds S Q Q', (∀ d S', Q d S' → Q' d S') → Ta x ds S Q → Ta x ds S Q') (ri : ∀ x ds S σ H Q, Here X.K W x ds S σ H → Ta x ds S (up X.K S H Q) → ta σ H Q) :
    ∀ x ds S σ H Q, Here X.K W x ds S σ H → dLcC Ta G Tt Te x ds S (up X.K S H Q) → tLc (iList X.K ta) g (cT X.K W0 Tt) (cE X.K W0 Te) vs σ H Q := fun x ds S σ H Q h q => by
  refine ri x ds S σ H _ h (im x ds S _ _ (fun d S1 ⟨qa, items, ed, hS1, q⟩ v H1 s1 r1 => ?_) q)
  subst ed
  cases (show v = _ from r1)
  obtain ⟨xs0, k1, k2⟩ := s1.wd qa _ hS1
  have y : YieldsC X.K (Itl X.K qa) qa items S1 H1 := fun S2 H2 s2 e2 => by
    obtain ⟨xs, g1, g2⟩ := s2.wd qa _ e2
    refine ⟨fun i hi => ?_, fun i hi => ⟨xs, SqL.of g1, by rw [g2.length]; exact hi⟩, fun i v H' d hy hd => ?_⟩
    · have hi' : i < xs.length := by rw [g2.length]; exact hi
      exact ⟨xs, xs[i], SqL.of g1, List.getElem?_eq_getElem hi'⟩
    · obtain ⟨e3, hv⟩ := hy
      subst e3
      obtain ⟨u, k3, k4⟩ := g2.get hd
      have := (hv xs (SqL.of g1)).symm.trans k3
      cases this
      exact ⟨⟨Same.refl _, s2.wd⟩, k4⟩
  refine ⟨qa, rfl, ⟨xs0, SqL.of k1⟩, ?_⟩
  intro D hD
  have hwo := put_wo (S := S1) (H := H1) (p := D) (o := .lst []) (.lst []) (.inr hD)
  have sD : Step X.K S1 H1 (S1.put D (.lst [])) (upd H1 D (.lst [])) := ⟨by rw [hwo]; exact Same.refl _, put_wd s1.wd (.inr hD) ⟨[], upd_same, rfl⟩⟩
  refine ⟨fun i m H' => ∃ S' acc, Step X.K S1 H1 S' H' ∧ m = items.length - i ∧ i ≤ items.length ∧ dCompC G Tt Te D ds (up X.K S H Q) qa items (items.drop i) acc S', ⟨items.length, _, [], sD, rfl, Nat.zero_le _, q D (s1.wd.free hD)⟩, fun i m H' ⟨S', acc, s', em', hi, q'⟩ => ?_⟩
  by_cases hlt : i < items.length
  · rw [List.drop_eq_getElem_cons hlt] at q'
    obtain ⟨e0, q'⟩ := q'
    obtain ⟨y1, y2, y3⟩ := y S' H' s' e0
    refine .inr ⟨y1 i hlt, fun H2 => ∃ S2 acc, Step X.K S1 H1 S2 H2 ∧ dCompC G Tt Te D ds (up X.K S H Q) qa items (items.drop (i + 1)) acc S2, fun H2 ⟨S2, acc2, s2, q2⟩ => ⟨items.length - (i + 1), by omega, S2, acc2, s2, rfl, hlt, q2⟩, fun v H2 hy => ?_⟩
    obtain ⟨s2, r2⟩ := y3 i v H2 _ hy (List.getElem?_eq_getElem hlt)
    have h2 : Here X.K W0 x0 ds S' σ H2 := ⟨h.rs.mono (s1.trans (s'.trans s2)).same, s2.wd, fun _ _ _ z => z.elim⟩
    refine hG.run _ v W0 x0 ds S' σ H2 _ h2 r2 (hG.mono _ _ _ _ _ (fun ds3 S3 q3 σ3 H3 s3 rs3 => ?_) q')
    have h3 : Here X.K W0 x0 ds3 S3 σ3 H3 := ⟨rs3, s3.wd, fun _ _ _ z => z.elim⟩
    refine ⟨x0, ds3, S3, h3, tm _ _ _ _ _ (fun k S4 q4 H4 s4 => ?_) q3⟩
    have s14 := (s'.trans s2).trans (s3.trans s4)
    refine ite_mono q4 (fun q4 => ?_) (fun q4 => ⟨S4, acc, s14, q4⟩)
    refine ⟨x0, ds3, S4, h3.step s4, em _ _ _ _ _ (fun y S5 ⟨e5, l5, q5⟩ u H5 s5 r5 => ?_) q4⟩
    obtain ⟨accV, k1, k2⟩ := s5.wd D _ e5
    have hS : S5 D ≠ none ∨ H5 D = none := .inl (by rw [e5]; intro z; cases z)
    refine ⟨accV, k1, by rw [k2.length]; exact Nat.lt_of_lt_of_le l5 (by decide), S5.put D (.lst (acc ++ [y])), acc ++ [y], (s14.trans s5).trans ⟨?_, put_wd s5.wd hS ⟨_, upd_same, k2.app (Rps.one r5)⟩⟩, q5⟩
    rw [put_wo _ hS]
    exact Same.refl _
  · have e : i = items.length := by omega
    subst e
    rw [List.drop_length] at q'
    obtain ⟨e0, e5, q5⟩ := q'
    obtain ⟨y1, y2, y3⟩ := y S' H' s' e0
    refine .inl ⟨y2 _ (Nat.le_refl _), ?_⟩
    rcases q5 with q5 | q5
    · exact q5 _ _ ((s1.trans s').trans ⟨froz_same, froz_wd s'.wd⟩) (froz_at s'.wd e5)
    · exact q5 _ _ (s1.trans s') rfl
theorem e_lcC {g : TG} {G : TG2} {tg iter : Expr} {ifs : List Expr} {scope : Scope} {own : List (Str × Nat)} (hc : X.calm = true) (hN : X.N.Nodup) (hi : E2 X W iter Ta) (ok : BlkOk X.N X.env.scope scope own) (hG : CG2 X.K (own.map (·.2)) g G)
    (hg : ∀ (s : Shared) (H : Hp) (C : Addr) (cl : List (Str × Addr)) (fp : List Addr), PG (X.blk s H scope (compEnvC scope cl C X.env) fp) tg g) (ht : ∀ (s : Shared) (H : Hp) (C : Addr) (cl : List (Str × Addr)) (fp : List Addr), F2 (X.blk s H scope (compEnvC scope cl C X.env) fp) ifs Tt)
    (he : ∀ (s : Shared) (H : Hp) (C : Addr) (cl : List (Str × Addr)) (fp : List Addr), E2 (X.blk s H scope (compEnvC scope cl C X.env) fp) W0 elt Te) (hs : ∀ x, foldedSetIterable iter X.env x = pure x := by intro _; rfl) :
    E2 X W (.ListComp elt [⟨tg, iter, ifs, 0⟩] scope pos) (dLcC Ta G Tt Te) := ⟨fun x ds S Q Q' h q => hi.mono _ _ _ _ _ (fun d S1 ⟨qa, es, e1, e2, q⟩ => ⟨qa, es, e1, e2, fun p hp => dCompC.mono hG.mono (ht X.s_0 X.H_0 0 [] []).mono (he X.s_0 X.H_0 0 [] []).mono h _ [] _ (q p hp)⟩) q, by
  obtain ⟨ta, pa, ra⟩ := hi.run
  refine ⟨_, pe_lc hc hN (pi_list pa) ok hg (fun s H C cl fp => (ht s H C cl fp).run) (fun s H C cl fp => (he s H C cl fp).canon) hs, lcC_lift hG (ht X.s_0 X.H_0 0 [] []).mono (he X.s_0 X.H_0 0 [] []).mono hi.mono ra⟩⟩
/-- such a comprehension, each item told, nothing changed -/
theorem comp_mapC {G : TG2} {Te : TE2} {p : Addr} {ds : Ds} {Q : QE} {q : Addr} {its : List Dt} (g : Dt → Dt) (hpq : q ≠ p) : ∀ (items acc : List Dt) (S : Cells), S q = some (.lst its) → acc.length + items.length < 100000 →
    (∀ d, d ∈ items → ∀ (S : Cells) (R : QE), R (g d) S → G d ds S fun ds2 S2 => Te x0 ds2 S2 R) → newL (acc ++ items.map g) S Q → S p = none → dCompC G dYes Te p ds Q q its items acc (S.put p (.lst acc))
  | [], acc, S, e0, _, h, z, hp => ⟨by rw [Cells.put_ne hpq]; exact e0, Cells.put_same, by
    rcases z with z | z
    · refine .inl ?_
      rw [del_put hp]
      simpa using z
    · exact .inr (by simpa using z p hp)⟩
  | d :: r, acc, S, e0, hl, h, z, hp => ⟨by rw [Cells.put_ne hpq]; exact e0, by
    have hl' : acc.length + (r.length + 1) < 100000 := hl
    refine h d List.mem_cons_self _ (fun y S4 => S4 p = some (.lst acc) ∧ acc.length < 100000 ∧ dCompC G dYes Te p ds Q q its r (acc ++ [y]) (S4.put p (.lst (acc ++ [y])))) ⟨Cells.put_same, by omega, ?_⟩
    rw [Cells.put_put]
    exact comp_mapC g hpq r (acc ++ [g d]) S e0 (by rw [List.length_append, List.length_singleton]; omega) (fun e he => h e (List.mem_cons_of_mem _ he)) (by simpa using z) hp⟩
theorem comp_newC {G : TG2} {Te : TE2} {ds : Ds} {Q : QE} {q : Addr} {its : List Dt} {S : Cells} (g : Dt → Dt) (e0 : S q = some (.lst its)) (hl : its.length < 100000)
    (h : ∀ d, d ∈ its → ∀ (S : Cells) (R : QE), R (g d) S → G d ds S fun ds2 S2 => Te x0 ds2 S2 R) (z : newL (its.map g) S Q) : ∀ p, S p = none → dCompC G dYes Te p ds Q q its its [] (S.put p (.lst [])) := fun p hp =>
  comp_mapC g (fun e => by subst e; rw [e0] at hp; cases hp) its [] S e0 (by simpa using hl) h z hp
/-- tuple(range(n)) -/
def dTupleR1 (Te : TE2) : TE2 := fun x ds S Q => Te x ds S fun d S1 => ∃ n, d = .int n ∧ -1000000 ≤ n ∧ n ≤ 1000000 ∧ Q (.tup (rng 0 n.toNat)) S1
theorem e_tupleR1 {p p2 pos2 : Pos} (hm : X.mg "tuple" = none) (hm2 : X.mg "range" = none) (he : E2 X W e Te) (hc : X.calm = true := by rfl) (hg : Gl X "tuple" := by rfl) (hg2 : Gl X "range" := by rfl)
    (n1 : starEach [e] X.env = (false, eval e X.env) :: starEach [] X.env := by rfl) (n2 : starEach [Expr.Call (.Name "range" p2) [e] [] pos2] X.env = (false, eval (Expr.Call (.Name "range" p2) [e] [] pos2) X.env) :: starEach [] X.env := by rfl) :
    E2 X W (.Call (.Name "tuple" p) [.Call (.Name "range" p2) [e] [] pos2] [] pos) (dTupleR1 Te) := ⟨fun x ds S Q Q' h p =>
    he.mono x ds S _ _ (fun d S1 ⟨n, e, h1, h2, q⟩ => ⟨n, e, h1, h2, h _ _ q⟩) p, by
  obtain ⟨t, p, r⟩ := he.run
  refine ⟨_, pe_tupRg hc hg hm (prg_1 hg2 hm2 p n1) n2, fun x ds S σ H Q h q => r x ds S σ H _ h (he.mono x ds S _ _ (fun d S1 ⟨n, e, h1, h2, q⟩ v H1 s1 r1 => ?_) q)⟩
  subst e
  cases (show v = _ from r1)
  refine ⟨n, rfl, ⟨by decide, by decide, by omega, by omega, by omega⟩, fun l hl => ?_⟩
  have z := rng_rps (K := X.K) (I := wo S1 H1) (a := 0) (b := n)
  rw [Int.sub_zero] at z
  have sm := new_same (o := .tup (rgV 0 n)) s1.wd hl
  exact q _ _ (s1.trans ⟨sm, new_wd s1.wd hl⟩) ⟨l, rgV 0 n, rfl, SqT.of (new_at s1.wd hl), z.mono sm⟩⟩
end
end Sc

namespace Sc
open PySem PySem.Spec PyProof.Rows L2 Sm
local macro_rules | `(tactic| walk_at "wp") => `(tactic| simp only [dRevT, dRevL, dEnumT, qRepA, qRepL, qCatL, qIn, qNotIn, dListR1, dListR2, dRet, dSeq, dIfS, dNext, dDrop, dSet, dAsg, dPar, dPar3, dAug, dVar, dC, dOp, dUn, dTest, dTru, dNot, dAnd, dOr, dAndV, dOrV, dNotV, dIf, dChain, dCall, dCons, dNil, dCB, dTup, dLst, dIsi, dStore, kSub, dYes, dFor, dIt, dItL, dRng1, dRng2, dSl, dNoP, dPart, dMt, dRaise,
  qI, qI0, qAdd, qSub, qMul, qFdiv, qFdivN, qMod, qPow, qLt, qLe, qGt, qGe, qEq, qNe, qIsN, qNotN, qIsB, qNotB, qNeg, qAbs, qMax2, qMin2, qLen, qIx, qTupOf, qLstOf, qSlT, qSlL, qCatT, qRepT, kName, kTup, kCons, kNil, start2, List.map_cons, List.map_nil, List.length_cons, List.length_nil, List.replicate, List.cons_append, List.nil_append, List.append_nil,
  List.getElem?_cons_zero, List.getElem?_cons_succ, List.set_cons_zero, List.set_cons_succ, Option.some.injEq, exists_eq_left', exists_eq_left, Dt.int.injEq, Dt.bl.injEq, Dt.ref.injEq, Dt.tup.injEq, Dt.lst.injEq, Nat.sub_zero, Nat.zero_add, Nat.reduceAdd, Nat.reduceSub, asQ_tup, asQ_lst, asL_lst, asT_tup, asQ_put, asL_put, exists_and_left, List.cons.injEq, and_true, isN_int, isN_non, truD_int, truD_non, at_0, at_1, at_2, ix20, ix21, Cells.put_same, Cells.put_put, Cell.lst.injEq, sEq_ii, sEq_bb, sEq_ss, sEq_nn, sEq_ni, sEq_in, true_and, decide_eq_true_eq, and_assoc])

/-! ### the parts of a chain -/
def partsN : Nat → List (List Int)
  | 0 => [[]]
  | i + 1 => partsN i ++ (partsN i).map fun p => p ++ [(i : Int)]
def intsN (n : Nat) : List Int := (List.range n).map fun (i : Nat) => (i : Int)
theorem intsN_succ (n : Nat) : intsN (n + 1) = intsN n ++ [(n : Int)] := by
  unfold intsN
  rw [List.range_succ, List.map_append]
  rfl
theorem part_in (f : Int → Bool) : ∀ n, (intsN n).filter f ∈ partsN n
  | 0 => List.mem_cons_self
  | n + 1 => by
    rw [intsN_succ, List.filter_append]
    have ih := part_in f n
    show _ ∈ partsN n ++ _
    rw [List.mem_append]
    by_cases h : f (n : Int) = true
    · refine .inr (List.mem_map.mpr ⟨_, ih, ?_⟩)
      rw [List.filter_cons_of_pos h]
      rfl
    · refine .inl ?_
      rw [List.filter_cons_of_neg h, List.filter_nil, List.append_nil]
      exact ih
theorem part_fit : ∀ {n : Nat} {p : List Int}, p ∈ partsN n → p.length ≤ n ∧ ∀ i, i ∈ p → 0 ≤ i ∧ i < n
  | 0, p, h => by
    have h : p = [] := by simpa [partsN] using h
    subst h
    exact ⟨Nat.le_refl _, fun i hi => nomatch hi⟩
  | n + 1, p, h => by
    rcases List.mem_append.mp (show p ∈ partsN n ++ (partsN n).map (fun p => p ++ [(n : Int)]) from h) with h | h
    · obtain ⟨h1, h2⟩ := part_fit h
      exact ⟨by omega, fun i hi => by have := h2 i hi; omega⟩
    · obtain ⟨r, hr, rfl⟩ := List.mem_map.mp h
      obtain ⟨h1, h2⟩ := part_fit hr
      refine ⟨by rw [List.length_append, List.length_singleton]; omega, fun i hi => ?_⟩
      rcases List.mem_append.mp hi with hi | hi
      · have := h2 i hi
        omega
      · rw [List.mem_singleton.mp hi]
        omega
theorem parts_len (n : Nat) : (partsN n).length = 2 ^ n := by
  induction n with
  | zero => rfl
  | succ n ih =>
    show (partsN n ++ (partsN n).map fun p => p ++ [(n : Int)]).length = _
    rw [List.length_append, List.length_map, ih, Nat.pow_succ]
    omega
def dIx (p : List Int) : Dt := .tup (p.map Dt.int)
def encR (p : List Int) : Dt := .tup [.int (p.length : Int), dIx p]
def leP (p q : List Int) : Bool := PySem.W.dataLe false py (encR p) (encR q)
def sortedP (n : Nat) : List (List Int) := (partsN n).mergeSort leP
theorem sortedP_eq (n : Nat) : ((partsN n).map encR).mergeSort (PySem.W.dataLe false py) = (sortedP n).map encR := (List.map_mergeSort (r := leP) (s := PySem.W.dataLe false py) (f := encR) (l := partsN n) (fun a _ b _ => rfl)).symm
theorem sortedP_mem {n : Nat} {p : List Int} : p ∈ sortedP n ↔ p ∈ partsN n := (List.mergeSort_perm _ _).mem_iff
theorem dIx_ok (p : List Int) : Ok0 1 (dIx p) := .tup fun d h => by
  obtain ⟨i, _, rfl⟩ := List.mem_map.mp h
  exact .int _ _
theorem Ok0.le {n m : Nat} {d : Dt} (h : Ok0 n d) (hm : n ≤ m) : Ok0 m d := by
  induction h generalizing m with
  | non => exact .non _
  | int => exact .int _ _
  | str n x h => exact .str _ _ h
  | tup h ih =>
    obtain ⟨k, rfl⟩ : ∃ k, m = k + 1 := ⟨m - 1, by omega⟩
    exact .tup fun d hd => ih d hd (by omega)
  | lst h ih =>
    obtain ⟨k, rfl⟩ : ∃ k, m = k + 1 := ⟨m - 1, by omega⟩
    exact .lst fun d hd => ih d hd (by omega)
theorem encR_ok (p : List Int) : Ok0 2 (encR p) := .tup fun d h => by
  rcases List.mem_cons.mp h with e | h
  · subst e
    exact .int _ _
  rw [List.mem_singleton.mp h]
  exact dIx_ok p
theorem pys_ints : ∀ p : List Int, pys (p.map Dt.int) = p.map .int
  | [] => by rw [List.map_nil, pys]; rfl
  | i :: p => by rw [List.map_cons, pys, pys_ints p, py]; rfl
theorem py_encR (p : List Int) : py (encR p) = .tuple [.int (p.length : Int), .tuple (p.map .int)] := by
  unfold encR dIx
  rw [py, pys, pys, pys, py, py, pys_ints]
theorem alike_encR (l : List (List Int)) : PySem.W.AllAlike ((l.map encR).map py) := by
  rw [List.map_map]
  refine PySem.W.AllAlike.of fun p q => ?_
  show PySem.W.alike (py (encR p)) (py (encR q)) = true
  rw [py_encR, py_encR]
  simp [PySem.W.alike, PySem.W.alikeAll, PySem.W.alike_ints]
theorem sortable_encR (l : List (List Int)) : PySem.W.Sortable ((l.map encR).map py) := by
  rw [List.map_map]
  exact PySem.W.Sortable.tuples fun p => ⟨_, _, py_encR p⟩
/-- the slices at these places -/
def subC (c : List Sl) (p : List Int) : List Sl := p.map fun i => c.getD i.toNat (none, none, 1)
def woC (c : List Sl) (i : Nat) : List Sl := c.take i ++ c.drop (i + 1)
def goodP (c : List Sl) (p : List Int) : Bool := (firstD (subC c p) c).isNone
def shortF (c : List Sl) : List Int := ((sortedP c.length).find? (goodP c)).getD []
theorem sub_ok {c : List Sl} (hc : okC c) {p : List Int} (hp : p ∈ partsN c.length) : okC (subC c p) := by
  obtain ⟨h1, h2⟩ := part_fit hp
  refine ⟨by have := hc.1; unfold subC; rw [List.length_map]; omega, fun s hs => ?_⟩
  obtain ⟨i, hi, rfl⟩ := List.mem_map.mp hs
  have := h2 i hi
  rw [List.getD_eq_getElem?_getD, List.getElem?_eq_getElem (by omega)]
  exact hc.2 _ (List.getElem_mem _)
theorem wo_ok {c : List Sl} (hc : okC c) (i : Nat) : okC (woC c i) := by
  refine ⟨?_, fun s hs => ?_⟩
  · have := hc.1
    unfold woC
    rw [List.length_append, List.length_take, List.length_drop]
    omega
  · rcases List.mem_append.mp hs with h | h
    · exact hc.2 _ (List.mem_of_mem_take h)
    · exact hc.2 _ (List.mem_of_mem_drop h)
theorem sub_wo {c : List Sl} (hc : c.length ≤ 4) {i : Nat} (hi : i < c.length) : subC c ((intsN c.length).filter fun j => decide (j ≠ (i : Int))) = woC c i := by
  match c, hc with
  | [], _ => exact absurd hi (Nat.not_lt_zero _)
  | [a], _ =>
    have : i = 0 := by simp at hi; omega
    subst this
    rfl
  | [a, b], _ =>
    have : i = 0 ∨ i = 1 := by simp at hi; omega
    rcases this with rfl | rfl <;> rfl
  | [a, b, d], _ =>
    have : i = 0 ∨ i = 1 ∨ i = 2 := by simp at hi; omega
    rcases this with rfl | rfl | rfl <;> rfl
  | [a, b, d, e], _ =>
    have : i = 0 ∨ i = 1 ∨ i = 2 ∨ i = 3 := by simp at hi; omega
    rcases this with rfl | rfl | rfl | rfl <;> rfl
  | a :: b :: d :: e :: f :: l, h => exact absurd h (by simp)
theorem sub_all {c : List Sl} (hc : c.length ≤ 4) : subC c ((intsN c.length).filter fun _ => true) = c := by
  match c, hc with
  | [], _ => rfl
  | [a], _ => rfl
  | [a, b], _ => rfl
  | [a, b, d], _ => rfl
  | [a, b, d, e], _ => rfl
  | a :: b :: d :: e :: f :: l, h => exact absurd h (by simp)
theorem search_none {p : Int → Bool} (h : ∀ i, p i = false) : ∀ (a : Int) (m : Nat), search p a m = none
  | _, 0 => rfl
  | a, m + 1 => by
    show (if p a = true then some a else search p (a + 1) m) = none
    rw [if_neg (by rw [h a]; decide), search_none h]
theorem firstD_self (c : List Sl) : firstD c c = none := search_none (fun i => by unfold unlike; simp) _ _
theorem all_good {c : List Sl} (hc : okC c) : ∃ p, p ∈ sortedP c.length ∧ goodP c p = true := ⟨_, sortedP_mem.mpr (part_in (fun _ => true) _), by unfold goodP; rw [sub_all hc.1, firstD_self]; rfl⟩
theorem find_first {α : Type} {f : α → Bool} {pre r : List α} {a : α} (h : ∀ x, x ∈ pre → f x = false) (ha : f a = true) : (pre ++ a :: r).find? f = some a := by
  rw [List.find?_append, List.find?_eq_none.mpr (fun x hx => by rw [h x hx]; decide)]
  simp [List.find?, ha]
/-! ### promises -/
def addD (i : Int) (d : Dt) : Dt := match d with
  | .tup l => .tup (l ++ [.int i])
  | d => d
def rowD (d : Dt) : Dt := match d with
  | .tup l => .tup [.int (l.length : Int), .tup l]
  | d => d
theorem parts_le {n : Nat} (h : n ≤ 4) : (partsN n).length ≤ 16 := by
  rw [parts_len]
  have : n = 0 ∨ n = 1 ∨ n = 2 ∨ n = 3 ∨ n = 4 := by omega
  rcases this with rfl | rfl | rfl | rfl | rfl <;> decide
theorem add_parts (i : Nat) : (partsN i).map dIx ++ ((partsN i).map dIx).map (addD (0 + (i : Int))) = (partsN (i + 1)).map dIx := by
  show _ = (partsN i ++ (partsN i).map fun p => p ++ [(i : Int)]).map dIx
  rw [List.map_append, List.map_map, List.map_map, Int.zero_add]
  congr 1
  refine List.map_congr_left fun p _ => ?_
  show Dt.tup (p.map Dt.int ++ [.int (i : Int)]) = Dt.tup ((p ++ [(i : Int)]).map Dt.int)
  rw [List.map_append]
  rfl
theorem row_parts (n : Nat) : ((partsN n).map dIx).map rowD = (partsN n).map encR := by
  rw [List.map_map]
  refine List.map_congr_left fun p _ => ?_
  show Dt.tup [.int ((p.map Dt.int).length : Int), dIx p] = Dt.tup [.int (p.length : Int), dIx p]
  rw [List.length_map]
def sp_without : Sp2 := psp (α := List Sl × Nat) (fun a => [dCh a.1, .int (a.2 : Int)]) (fun a => a.1.length ≤ 4 ∧ a.2 < a.1.length) (fun a => dCh (woC a.1 a.2))
def sp_needless : Sp2 := lsp (α := List Sl) (fun c => [dCh c]) (fun c => okC c) (fun c => (filI (fun i => (firstD (woC c i.toNat) c).isNone) c.length).map Dt.int)
def sp_shortest_part : Sp2 := psp (α := List Sl) (fun c => [dCh c]) (fun c => okC c) (fun c => dIx (shortF c))
def T_without : TS2 :=
  (dRet (dOp qCatT (dSl qSlT (dVar 0) dNoP (dPart (dVar 1))) (dSl qSlT (dVar 0) (dPart (dOp qAdd (dVar 1) (dC (.int 1)))) dNoP)))
theorem pure_without : Pure 2 sp_without T_without := by
  rintro ds S Q E frg ⟨⟨c, i⟩, rfl, ⟨hl, hi⟩, q⟩
  have hl : c.length ≤ 4 := hl
  have hi : i < c.length := hi
  unfold T_without dCh
  walk_at "wp"
  rw [cutG_to, cutG_next]
  refine ⟨by rw [List.length_take, List.length_drop, List.length_map]; omega, ?_⟩
  have e : List.take i (c.map dS) ++ List.drop (i + 1) (c.map dS) = (woC c i).map dS := by
    unfold woC
    rw [List.map_append, List.map_take, List.map_drop]
  rw [e]
  exact q
def T_needless : TS2 :=
  (dSeq (dDrop (dCall sp_require_chain (dCons (dVar 0) dNil)))
  (dRet (dLc (dRng1 (dCB qLen (dCons (dVar 0) dNil))) (kName 1) (dTest (dCall sp_are_equal (dCons (dCall sp_without (dCons (dVar 0) (dCons (dVar 1) dNil))) (dCons (dVar 0) dNil)))) (dVar 1))))
theorem pure_needless : Pure 2 sp_needless T_needless := by
  rintro ds S Q E frg ⟨c, rfl, hc, q⟩
  have hc : okC c := hc
  have h4 := hc.1
  unfold T_needless dLc
  walk_at "wp"
  refine ⟨_, rfl, chain_req hc, ?_⟩
  unfold dCh
  walk_at "wp"
  rw [List.length_map, Int.toNat_natCast]
  refine ⟨by omega, by omega, ?_⟩
  refine comp_filI (fun i => (firstD (woC c i.toNat) c).isNone) Dt.int (by omega) (fun i hi S R1 R2 y n => ?_) q
  walk_at "wp"
  rw [Int.zero_add]
  rw [Int.toNat_natCast] at y n
  exact ⟨(c, i), rfl, ⟨h4, hi⟩, (woC c i, c), rfl, ⟨wo_ok hc i, hc⟩, _, rfl, ite2 (fun k => y k) (fun k => n (Bool.eq_false_iff.mpr k))⟩
def T_shortest_part : TS2 :=
  (dSeq (dDrop (dCall sp_require_chain (dCons (dVar 0) dNil)))
  (dSeq (dSet 1 (dLst (dCons (dTup dNil) dNil)))
  (dSeq (dFor (dRng1 (dCB qLen (dCons (dVar 0) dNil))) (kName 2) (dAug 1 qExtL (dLcC (dVar 1) (kName 4) dYes (dOp qCatT (dVar 4) (dTup (dCons (dVar 2) dNil))))))
  (dSeq (dFor (dItL (dCB qSortD (dCons (dLcC (dVar 1) (kName 4) dYes (dTup (dCons (dCB qLen (dCons (dVar 4) dNil)) (dCons (dVar 4) dNil)))) dNil))) (kTup 2 (kCons (kName 3) (kCons (kName 4) kNil))) (dIfS (dTest (dCall sp_are_equal (dCons (dCB qTupOf (dCons (dLc (dIt (dVar 4)) (kName 2) dYes (dOp qIx (dVar 0) (dVar 2))) dNil)) (dCons (dVar 0) dNil)))) (dRet (dVar 4)) dNext))
  (dRet (dTupleR1 (dCB qLen (dCons (dVar 0) dNil))))))))
theorem pure_shortest_part : Pure 5 sp_shortest_part T_shortest_part := by
  rintro ds S Q E frg ⟨c, rfl, hc, q⟩
  have hc : okC c := hc
  have h4 := hc.1
  have q : Q (dIx (shortF c)) S := q
  unfold T_shortest_part
  walk_at "wp"
  refine ⟨_, rfl, chain_req hc, by decide, by decide, .inr fun a ha => ?_⟩
  unfold dCh
  walk_at "wp"
  rw [List.length_map]
  refine ⟨by omega, by omega, ?_⟩
  rw [Int.toNat_natCast]
  refine loop_rng (fun i ds S2 => (S2 a = some (.lst ((partsN i).map dIx)) ∧ ∀ k, Q (dIx (shortF c)) (S2.put a k)) ∧ ∃ x2 x3 x4, ds = [some (.tup (c.map dS)), some (.ref a), x2, x3, x4]) ⟨⟨Cells.put_same, fun k => by rw [Cells.put_put]; exact frg.fg _ _ _ _ ha q⟩, _, _, _, rfl⟩ ?_ ?_
  · rintro i ds S2 N hi ⟨⟨e0, qq⟩, _, _, _, rfl⟩ hN
    unfold dLcC dItC
    walk_at "wp"
    have l2 := parts_le (n := i) (by omega)
    refine ⟨_, e0, comp_newC (addD (0 + (i : Int))) e0 (by rw [List.length_map]; omega) (fun d hd S3 R r => ?_) (.inr fun b hb => ?_)⟩
    · obtain ⟨p, hp, rfl⟩ := List.mem_map.mp hd
      have := (part_fit hp).1
      unfold dIx
      walk_at "wp"
      exact ⟨by decide, by rw [List.length_map]; omega, r⟩
    · have ne : a ≠ b := fun e => by
        subst e
        rw [e0] at hb
        cases hb
      refine ⟨a, b, _, _, rfl, rfl, by rw [Cells.put_ne ne]; exact e0, Cells.put_same, by simp only [List.length_map]; omega, hN _ _ ⟨⟨?_, fun k => ?_⟩, _, _, _, rfl⟩⟩
      · rw [Cells.put_same, add_parts]
      · rw [Cells.put_put, put_comm ne.symm]
        exact frg.fg _ _ _ _ (by rw [Cells.put_ne ne.symm]; exact hb) (qq k)
  · rintro ds S2 ⟨⟨e0, qq⟩, _, _, _, rfl⟩
    have q2 : Q (dIx (shortF c)) S2 := by
      have z := qq (.lst ((partsN c.length).map dIx))
      rw [put_self e0] at z
      exact z
    have l2 := parts_le (n := c.length) h4
    unfold dLcC dItC
    walk_at "wp"
    refine ⟨_, e0, comp_newC rowD e0 (by rw [List.length_map]; omega) (fun d hd S3 R r => ?_) (.inl ?_)⟩
    · obtain ⟨p, hp, rfl⟩ := List.mem_map.mp hd
      unfold dIx
      walk_at "wp"
      exact ⟨by decide, r⟩
    rw [row_parts]
    refine ⟨_, _, rfl, rfl, fun e he => ?_, alike_encR _, sortable_encR _, .inl ⟨_, rfl, ?_⟩⟩
    · obtain ⟨p, hp, rfl⟩ := List.mem_map.mp he
      exact (encR_ok p).le (by decide)
    rw [sortedP_eq]
    refine loop_rest encR (fun r ds S3 => (∃ pre, pre ++ r = sortedP c.length ∧ ∀ p, p ∈ pre → goodP c p = false) ∧ S3 = S2 ∧ ∃ x2 x3 x4, ds = [some (.tup (c.map dS)), some (.ref a), x2, x3, x4]) ?_ ?_ (sortedP c.length) _ _ ⟨⟨[], rfl, fun p h => nomatch h⟩, rfl, _, _, _, rfl⟩
    · rintro p r ds S3 N ⟨⟨pre, epre, hpre⟩, rfl, _, _, _, rfl⟩ hN
      have hp : p ∈ partsN c.length := sortedP_mem.mp (by rw [← epre]; exact List.mem_append_right _ List.mem_cons_self)
      have fit := part_fit hp
      unfold encR dLc
      walk_at "wp"
      refine ⟨_, rfl, comp_mapE Dt.int (fun i => dS (c.getD i.toNat (none, none, 1))) (by omega) (fun k hk S4 R r => ?_) (.inl ?_)⟩
      · walk_at "wp"
        have hk := fit.2 k hk
        obtain ⟨s, g1, g2, g3⟩ := at_get (l := c) (i := k) hk.1 (by omega)
        have es : c.getD k.toNat (none, none, 1) = s := by
          rw [List.getD_eq_getElem?_getD, g3]
          rfl
        rw [es] at r
        exact ⟨_, at_mapG g1, r⟩
      · have em : p.map (fun i => dS (c.getD i.toNat (none, none, 1))) = (subC c p).map dS := by
          unfold subC
          rw [List.map_map]
          rfl
        refine ⟨_, rfl, (subC c p, c), ?_, ⟨sub_ok hc hp, hc⟩, _, rfl, ite2 (fun k => ?_) (fun k => ?_)⟩
        · show [Dt.tup _, Dt.tup _] = [dCh (subC c p), dCh c]
          rw [em]
          rfl
        · have e : shortF c = p := by
            unfold shortF
            rw [← epre, find_first hpre k]
            rfl
          rw [← e]
          exact q2
        · refine hN _ _ ⟨⟨pre ++ [p], by rw [← epre, List.append_assoc]; rfl, fun x hx => ?_⟩, rfl, _, _, _, rfl⟩
          rcases List.mem_append.mp hx with hx | hx
          · exact hpre x hx
          · rw [List.mem_singleton.mp hx]
            exact Bool.eq_false_iff.mpr k
    · rintro ds S3 ⟨⟨pre, epre, hpre⟩, rfl, _, _, _, rfl⟩
      obtain ⟨p, h1, h2⟩ := all_good hc
      rw [List.append_nil] at epre
      rw [← epre] at h1
      rw [hpre p h1] at h2
      cases h2
end Sc

namespace Sc
open PySem PySem.Spec PyProof.Rows L2 Sm
local macro_rules | `(tactic| walk_at "wp") => `(tactic| simp only [dRevT, dRevL, dEnumT, qRepA, qRepL, qCatL, qIn, qNotIn, dListR1, dListR2, dRet, dSeq, dIfS, dNext, dDrop, dSet, dAsg, dPar, dPar3, dAug, dVar, dC, dOp, dUn, dTest, dTru, dNot, dAnd, dOr, dAndV, dOrV, dNotV, dIf, dChain, dCall, dCons, dNil, dCB, dTup, dLst, dIsi, dStore, kSub, dYes, dFor, dIt, dItL, dRng1, dRng2, dSl, dNoP, dPart, dMt, dRaise,
  qI, qI0, qAdd, qSub, qMul, qFdiv, qFdivN, qMod, qPow, qLt, qLe, qGt, qGe, qEq, qNe, qIsN, qNotN, qIsB, qNotB, qNeg, qAbs, qMax2, qMin2, qLen, qIx, qTupOf, qLstOf, qSlT, qSlL, qCatT, qRepT, kName, kTup, kCons, kNil, start2, List.map_cons, List.map_nil, List.length_cons, List.length_nil, List.replicate, List.cons_append, List.nil_append, List.append_nil,
  List.getElem?_cons_zero, List.getElem?_cons_succ, List.set_cons_zero, List.set_cons_succ, Option.some.injEq, exists_eq_left', exists_eq_left, Dt.int.injEq, Dt.bl.injEq, Dt.ref.injEq, Dt.tup.injEq, Dt.lst.injEq, Nat.sub_zero, Nat.zero_add, Nat.reduceAdd, Nat.reduceSub, asQ_tup, asQ_lst, asL_lst, asT_tup, asQ_put, asL_put, exists_and_left, List.cons.injEq, and_true, isN_int, isN_non, truD_int, truD_non, at_0, at_1, at_2, ix20, ix21, Cells.put_same, Cells.put_put, Cell.lst.injEq, sEq_ii, sEq_bb, sEq_ss, sEq_nn, sEq_ni, sEq_in, true_and, decide_eq_true_eq, and_assoc])

/-! ### like a single slice -/
def SMP : List Int := [0, 1, 2, 3, 4, 5, 8, 13, 30, 31, 32, 61, 200, 201, 202, 203, 204, 205]
def agr (c : List Sl) (s : Sl) (n : Int) : Bool := decide (clean c n = clean [s] n)
def looksF (c : List Sl) (s : Sl) : Bool := (SMP.drop 3).all (agr c s) && (firstD c [s]).isNone
def likeF (c : List Sl) (s : Sl) : Bool := (SMP.take 3).all (agr c s) && looksF c s
def sp_looks_like : Sp2 := psp (α := List Sl × Sl) (fun a => [dCh a.1, dS a.2]) (fun a => okC a.1 ∧ okS a.2) (fun a => .bl (looksF a.1 a.2))
def sp_is_like : Sp2 := psp (α := List Sl × Sl) (fun a => [dCh a.1, dS a.2]) (fun a => okC a.1 ∧ okS a.2) (fun a => .bl (likeF a.1 a.2))
/-- of a chain that is like no single slice -/
def sp_single_slice : Sp2 := psp (α := List Sl) (fun c => [dCh c]) (fun c => okC c ∧ ∀ s, okS s → likeF c s = false) (fun _ => .non)
theorem one_ok {s : Sl} (h : okS s) : okC [s] := ⟨by show 1 ≤ 4; decide, fun z hz => by rw [List.mem_singleton.mp hz]; exact h⟩
theorem smp_in {n : Int} (h : n ∈ SMP) : 0 ≤ n ∧ n ≤ 205 := by
  have : ∀ n, n ∈ SMP → 0 ≤ n ∧ n ≤ 205 := by decide
  exact this n h
def T_looks_like : TS2 :=
  (dSeq (dIfS (dNot (dTest (dCB qAll (dCons (dLc (dIt (dSl qSlT (dC (.tup [(.int 0), (.int 1), (.int 2), (.int 3), (.int 4), (.int 5), (.int 8), (.int 13), (.int 30), (.int 31), (.int 32), (.int 61), (.int 200), (.int 201), (.int 202), (.int 203), (.int 204), (.int 205)])) (dPart (dC (.int 3))) dNoP)) (kName 2) dYes (dCall sp_agree_at (dCons (dVar 0) (dCons (dTup (dCons (dVar 1) dNil)) (dCons (dVar 2) dNil))))) dNil)))) (dRet (dC (.bl false))) dNext)
  (dRet (dCall sp_are_equal (dCons (dVar 0) (dCons (dTup (dCons (dVar 1) dNil)) dNil)))))
theorem pure_looks_like : Pure 3 sp_looks_like T_looks_like := by
  rintro ds S Q E frg ⟨⟨c, s⟩, rfl, ⟨hc, hs⟩, q⟩
  have hc : okC c := hc
  have hs : okS s := hs
  have q : Q (.bl (looksF c s)) S := q
  unfold T_looks_like dLc
  walk_at "wp"
  rw [show cutG [Dt.int 0, Dt.int 1, Dt.int 2, Dt.int 3, Dt.int 4, Dt.int 5, Dt.int 8, Dt.int 13, Dt.int 30, Dt.int 31, Dt.int 32, Dt.int 61, Dt.int 200, Dt.int 201, Dt.int 202, Dt.int 203, Dt.int 204, Dt.int 205] (some 3) none = (SMP.drop 3).map Dt.int from cutG_from (i := 3)]
  refine comp_mapE Dt.int (fun n => .bl (agr c s n)) (by decide) (fun n hn S R r => ?_) (.inl ?_)
  · have hn := smp_in (List.mem_of_mem_drop hn)
    walk_at "wp"
    exact ⟨by decide, (c, [s], n), rfl, ⟨hc.2, (one_ok hs).2, hn.1, by show n ≤ 10 ^ 18; omega⟩, r⟩
  refine ⟨_, (SMP.drop 3).map (agr c s), rfl, by rw [List.map_map]; rfl, _, rfl, ?_⟩
  rw [List.all_map]
  have q : Q (.bl ((SMP.drop 3).all (agr c s) && (firstD c [s]).isNone)) S := q
  refine ite2 (fun k => ?_) (fun k => ?_)
  · have k : (SMP.drop 3).all (agr c s) = false := by simpa using k
    rw [k] at q
    exact q
  · have k : (SMP.drop 3).all (agr c s) = true := by simpa using k
    rw [k] at q
    exact ⟨by decide, (c, [s]), rfl, ⟨hc, one_ok hs⟩, q⟩
def T_is_like : TS2 :=
  (dRet (dAndV (dCB qAll (dCons (dLc (dIt (dSl qSlT (dC (.tup [(.int 0), (.int 1), (.int 2), (.int 3), (.int 4), (.int 5), (.int 8), (.int 13), (.int 30), (.int 31), (.int 32), (.int 61), (.int 200), (.int 201), (.int 202), (.int 203), (.int 204), (.int 205)])) dNoP (dPart (dC (.int 3))))) (kName 2) dYes (dCall sp_agree_at (dCons (dVar 0) (dCons (dTup (dCons (dVar 1) dNil)) (dCons (dVar 2) dNil))))) dNil)) (dCall sp_looks_like (dCons (dVar 0) (dCons (dVar 1) dNil)))))
theorem pure_is_like : Pure 3 sp_is_like T_is_like := by
  rintro ds S Q E frg ⟨⟨c, s⟩, rfl, ⟨hc, hs⟩, q⟩
  have hc : okC c := hc
  have hs : okS s := hs
  have q : Q (.bl (likeF c s)) S := q
  unfold T_is_like dLc
  walk_at "wp"
  rw [show cutG [Dt.int 0, Dt.int 1, Dt.int 2, Dt.int 3, Dt.int 4, Dt.int 5, Dt.int 8, Dt.int 13, Dt.int 30, Dt.int 31, Dt.int 32, Dt.int 61, Dt.int 200, Dt.int 201, Dt.int 202, Dt.int 203, Dt.int 204, Dt.int 205] none (some 3) = (SMP.take 3).map Dt.int from cutG_to (i := 3)]
  refine comp_mapE Dt.int (fun n => .bl (agr c s n)) (by decide) (fun n hn S R r => ?_) (.inl ?_)
  · have hn := smp_in (List.mem_of_mem_take hn)
    walk_at "wp"
    exact ⟨by decide, (c, [s], n), rfl, ⟨hc.2, (one_ok hs).2, hn.1, by show n ≤ 10 ^ 18; omega⟩, r⟩
  refine ⟨_, (SMP.take 3).map (agr c s), rfl, by rw [List.map_map]; rfl, _, rfl, ?_⟩
  rw [List.all_map]
  have q : Q (.bl ((SMP.take 3).all (agr c s) && looksF c s)) S := q
  refine ite2 (fun k => ?_) (fun k => ?_)
  · have k : (SMP.take 3).all (agr c s) = true := k
    rw [k] at q
    exact ⟨(c, s), rfl, ⟨hc, hs⟩, q⟩
  · have k : (SMP.take 3).all (agr c s) = false := Bool.eq_false_iff.mpr k
    rw [k] at q
    exact q
def T_single_slice : TS2 :=
  (dSeq (dDrop (dCall sp_require_chain (dCons (dVar 0) dNil)))
  (dSeq (dSet 1 (dOp qCatL (dLst (dCons (dC .non) dNil)) (dListR2 (dOp qSub (dC (.int 0)) (dC (.int 30))) (dOp qAdd (dC (.int 30)) (dC (.int 1))))))
  (dSeq (dFor (dRng2 (dOp qSub (dC (.int 0)) (dC (.int 3))) (dOp qAdd (dC (.int 3)) (dC (.int 1)))) (kName 2) (dFor (dItL (dVar 1)) (kName 3) (dFor (dItL (dVar 1)) (kName 4) (dIfS (dAnd (dTest (dOp qNe (dVar 2) (dC (.int 0)))) (dTest (dCall sp_is_like (dCons (dVar 0) (dCons (dTup (dCons (dVar 3) (dCons (dVar 4) (dCons (dVar 2) dNil)))) dNil))))) (dRet (dTup (dCons (dVar 3) (dCons (dVar 4) (dCons (dVar 2) dNil))))) dNext))))
  (dRet (dC .non)))))
theorem pure_single_slice : Pure 5 sp_single_slice T_single_slice := by
  rintro ds S Q E frg ⟨c, rfl, ⟨hc, hl⟩, q⟩
  have hc : okC c := hc
  have hl : ∀ s, okS s → likeF c s = false := hl
  have q : Q .non S := q
  unfold T_single_slice
  walk_at "wp"
  refine ⟨_, rfl, chain_req hc, by decide, .inr fun a ha => ⟨by decide, by decide, by decide, by decide, .inr fun b hb => ?_⟩⟩
  have ne : a ≠ b := Cells.ne_new Cells.put_same hb
  refine ⟨a, rfl, b, rfl, _, by rw [Cells.put_ne ne]; exact Cells.put_same, _, Cells.put_same, by rw [rng_len]; decide, .inl ⟨by decide, by decide, by decide, by decide, ?_⟩⟩
  rw [show [Dt.non] ++ rng (0 - 30) (30 + 1 - (0 - 30) : Int).toNat = valsL.map dO from vals_eq]
  have q2 : Q .non ((S.put a (.lst [.non])).put b (.lst (rng (0 - 30) (30 + 1 - (0 - 30) : Int).toNat))) := frg.fg _ _ _ _ hb (frg.fg _ _ _ _ ha q)
  obtain ⟨S9, e9⟩ : ∃ S9, S9 = (S.put a (.lst [.non])).put b (.lst (rng (0 - 30) (30 + 1 - (0 - 30) : Int).toNat)) := ⟨_, rfl⟩
  rw [← e9] at q2 ⊢
  refine loop_rng (fun _ ds S2 => S2 = S9 ∧ ∃ x2 x3 x4, ds = [some (dCh c), some (.lst (valsL.map dO)), x2, x3, x4]) ⟨rfl, _, _, _, rfl⟩ ?_ ?_
  · rintro i ds S2 N hi ⟨rfl, _, _, _, rfl⟩ hN
    walk_at "wp"
    refine loop_rest dO (fun r ds S3 => S3 = S2 ∧ (∀ o, o ∈ r → o ∈ valsL) ∧ ∃ x3 x4, ds = [some (dCh c), some (.lst (valsL.map dO)), some (.int (0 - 3 + (i : Int))), x3, x4]) ?_ ?_ valsL _ _ ⟨rfl, fun _ h => h, _, _, rfl⟩
    · rintro o r ds S3 N3 ⟨rfl, ho, _, _, rfl⟩ hN3
      walk_at "wp"
      refine loop_rest dO (fun r ds S4 => S4 = S3 ∧ (∀ o, o ∈ r → o ∈ valsL) ∧ ∃ x4, ds = [some (dCh c), some (.lst (valsL.map dO)), some (.int (0 - 3 + (i : Int))), some (dO o), x4]) ?_ ?_ valsL _ _ ⟨rfl, fun _ h => h, _, rfl⟩
      · rintro u r2 ds S4 N4 ⟨rfl, hu, _, rfl⟩ hN4
        have nx : N4 [some (dCh c), some (.lst (valsL.map dO)), some (.int (0 - 3 + (i : Int))), some (dO o), some (dO u)] S4 := hN4 _ _ ⟨rfl, fun z hz => hu z (List.mem_cons_of_mem _ hz), _, rfl⟩
        walk_at "wp"
        refine ite2 (fun k => ?_) (fun _ => iteN (by decide) nx)
        have k : ¬ 0 - 3 + (i : Int) = 0 := by simpa using k
        have hi : i < 7 := hi
        have ok : okS (o, u, 0 - 3 + (i : Int)) := ⟨valsL_in (ho _ List.mem_cons_self), valsL_in (hu _ List.mem_cons_self), by show -3 ≤ 0 - 3 + (i : Int); omega, by show 0 - 3 + (i : Int) ≤ 3; omega, k⟩
        exact ⟨by decide, (c, (o, u, 0 - 3 + (i : Int))), rfl, ⟨hc, ok⟩, _, rfl, iteN (by dsimp only; rw [hl _ ok]; decide) nx⟩
      · rintro ds S4 ⟨rfl, _, _, rfl⟩
        exact hN3 _ _ ⟨rfl, fun z hz => ho z (List.mem_cons_of_mem _ hz), _, _, rfl⟩
    · rintro ds S3 ⟨rfl, _, _, _, rfl⟩
      exact hN _ _ ⟨rfl, _, _, _, rfl⟩
  · rintro ds S2 ⟨rfl, _, _, _, rfl⟩
    walk_at "wp"
    exact q2
/-! ### no place in common -/
def disjB (c d : List Sl) (n : Int) : Bool := (plc (shown c n)).all fun v => !decide (v ∈ plc (shown d n))
def apartB (c d : List Sl) (n : Nat) : Bool := (List.range n).all fun k => disjB c d (k : Int)
def sp_are_apart : Sp2 := psp (α := List Sl × List Sl × Int) (fun a => [dCh a.1, dCh a.2.1, .int a.2.2]) (fun a => okC a.1 ∧ okC a.2.1 ∧ 0 ≤ a.2.2 ∧ a.2.2 < 100000) (fun a => .bl (apartB a.1 a.2.1 a.2.2.toNat))
def sp_are_disjoint : Sp2 := psp (α := List Sl × List Sl) (fun a => [dCh a.1, dCh a.2]) (fun a => okC a.1 ∧ okC a.2) (fun a => .bl (apartB a.1 a.2 (bnd a.1 a.2 + lastT a.1 a.2).toNat))
def disj_of {c d : List Sl} {n : Int} {r : Pg} (h : Meets (shown c n) (shown d n) r) : decide (r.2.2 = 0) = disjB c d n := by
  rw [Bool.eq_iff_iff, decide_eq_true_iff]
  unfold disjB
  rw [List.all_eq_true]
  constructor
  · intro e v hv
    rw [Bool.not_eq_true', decide_eq_false_iff_not]
    intro hw
    obtain ⟨k, k0, k1, _⟩ := (h.2.2 v).mpr ⟨plc_on.mp hv, plc_on.mp hw⟩
    omega
  · intro z
    have h0 := h.2.1
    by_cases e : r.2.2 = 0
    · exact e
    · obtain ⟨h1, h2⟩ := (h.2.2 (r.1 + r.2.1 * 0)).mp ⟨0, Int.le_refl _, by omega, rfl⟩
      have := z _ (plc_on.mpr h1)
      rw [Bool.not_eq_true', decide_eq_false_iff_not] at this
      exact (this (plc_on.mpr h2)).elim
def T_are_apart : TS2 :=
  (dRet (dCB qAll (dCons (dLc (dRng1 (dVar 2)) (kName 3) dYes (dOp qEq (dOp qIx (dCall sp_common_at (dCons (dVar 0) (dCons (dVar 1) (dCons (dVar 3) dNil)))) (dC (.int 2))) (dC (.int 0)))) dNil)))
theorem pure_are_apart : Pure 4 sp_are_apart T_are_apart := by
  rintro ds S Q E frg ⟨⟨c, d, n⟩, rfl, ⟨hc, hd, h0, h1⟩, q⟩
  have hc : okC c := hc
  have hd : okC d := hd
  have h0 : 0 ≤ n := h0
  have h1 : n < 100000 := h1
  have q : Q (.bl (apartB c d n.toNat)) S := q
  unfold T_are_apart dLc
  walk_at "wp"
  refine ⟨by omega, by omega, ?_⟩
  refine comp_mapI (fun k => .bl (disjB c d k)) (by omega) (fun k hk S R r => ?_) (.inl ?_)
  · walk_at "wp"
    rw [Int.zero_add]
    refine ⟨(c, d, (k : Int)), rfl, ⟨hc, hd, by show 0 ≤ (k : Int); omega, by show (k : Int) ≤ 10 ^ 18; omega⟩, fun p hp => ?_⟩
    rw [dPg_eq]
    refine ⟨_, rfl, _, at_2, _, sEq_ii, ?_⟩
    rw [disj_of hp]
    exact r
  · refine ⟨_, (List.range n.toNat).map (fun k : Nat => disjB c d (k : Int)), rfl, by rw [List.map_map]; rfl, ?_⟩
    rw [List.all_map]
    exact q
def T_are_disjoint : TS2 :=
  (dSeq (dDrop (dCall sp_require_both (dCons (dVar 0) (dCons (dVar 1) dNil))))
  (dRet (dCall sp_are_apart (dCons (dVar 0) (dCons (dVar 1) (dCons (dOp qAdd (dCall sp_bound_for (dCons (dVar 0) (dCons (dVar 1) dNil))) (dCall sp_last_threshold (dCons (dVar 0) (dCons (dVar 1) dNil)))) dNil))))))
theorem pure_are_disjoint : Pure 2 sp_are_disjoint T_are_disjoint := by
  rintro ds S Q E frg ⟨⟨c, d⟩, rfl, ⟨hc, hd⟩, q⟩
  have hc : okC c := hc
  have hd : okC d := hd
  have q : Q (.bl (apartB c d (bnd c d + lastT c d).toNat)) S := q
  unfold T_are_disjoint
  walk_at "wp"
  have b1 := thr_le2 hc
  have b2 := thr_le2 hd
  have b3 := bothP_le hc hd
  have b4 := bothP_pos hc hd
  have b5 := thr_nn hc
  have b6 := thr_nn hd
  refine ⟨(c, d), rfl, ⟨hc, hd⟩, (c, d), rfl, ⟨hc, hd⟩, (c, d), rfl, ⟨hc, hd⟩, _, rfl, _, rfl, (c, d, bnd c d + lastT c d), rfl, ⟨hc, hd, ?_, ?_⟩, q⟩
  · show 0 ≤ bnd c d + lastT c d
    unfold bnd lastT
    omega
  · show bnd c d + lastT c d < 100000
    unfold bnd lastT
    omega
/-- of two chains -/
def pB (c d : List Sl) : Int := 2 * max (thr c) (thr d) + 3 * lcmI (lcmI 1 (per c)) (per d)
def sp_are_partition : Sp2 := psp (α := List Sl × List Sl) (fun a => [dChs [a.1, a.2]]) (fun a => okC a.1 ∧ okC a.2 ∧ (∀ n : Nat, n < (pB a.1 a.2).toNat → (shown a.1 n).2.2 + (shown a.2 n).2.2 = n) ∧ apartB a.2 a.1 (pB a.1 a.2).toNat = true) (fun _ => .bl true)
theorem lcm_one (a : Int) (h : 0 < a) : lcmI 1 a = a := by
  unfold lcmI
  show ((Nat.lcm 1 a.natAbs : Nat) : Int) = a
  rw [Nat.lcm_one_left]
  omega
def T_are_partition : TS2 :=
  (dSeq (dDrop (dCall sp_require_chains (dCons (dVar 0) (dCons (dC (.int 3)) dNil))))
  (dSeq (dSet 1 (dC (.int 1)))
  (dSeq (dFor (dIt (dVar 0)) (kName 2) (dSet 1 (dCall sp_common_multiple (dCons (dVar 1) (dCons (dCall sp_period_of (dCons (dVar 2) dNil)) dNil)))))
  (dSeq (dSet 3 (dOp qAdd (dOp qMul (dC (.int 2)) (dCB qMaxL (dCons (dLc (dIt (dVar 0)) (kName 2) dYes (dCall sp_threshold_of (dCons (dVar 2) dNil))) dNil))) (dOp qMul (dC (.int 3)) (dVar 1))))
  (dSeq (dFor (dRng1 (dVar 3)) (kName 4) (dIfS (dTest (dOp qNe (dCB qSum (dCons (dLc (dIt (dVar 0)) (kName 2) dYes (dOp qIx (dCall sp_shown_by (dCons (dVar 2) (dCons (dVar 4) dNil))) (dC (.int 2)))) dNil)) (dVar 4))) (dRet (dC (.bl false))) dNext))
  (dSeq (dFor (dEnumT (dVar 0)) (kTup 2 (kCons (kName 5) (kCons (kName 2) kNil))) (dIfS (dNot (dTest (dCB qAll (dCons (dLc (dIt (dSl qSlT (dVar 0) dNoP (dPart (dVar 5)))) (kName 6) dYes (dCall sp_are_apart (dCons (dVar 2) (dCons (dVar 6) (dCons (dVar 3) dNil))))) dNil)))) (dRet (dC (.bl false))) dNext))
  (dRet (dC (.bl true)))))))))
theorem pure_are_partition : Pure 7 sp_are_partition T_are_partition := by
  rintro ds S Q E frg ⟨⟨c, d⟩, rfl, ⟨hc, hd, hsum, hap⟩, q⟩
  have hc : okC c := hc
  have hd : okC d := hd
  have q : Q (.bl true) S := q
  have b1 := thr_le2 hc
  have b2 := thr_le2 hd
  have b5 := thr_nn hc
  have b6 := thr_nn hd
  have p1 := per_pos hc
  have p2 := per_pos hd
  have p3 := per_le hc
  have p4 := per_le hd
  have bB : 0 ≤ pB c d ∧ pB c d < 100000 := by
    have l1 := lcm_le p1 p2 p3 p4
    have l2 := lcm_pos p1 p2
    unfold pB
    rw [lcm_one _ p1]
    omega
  unfold T_are_partition
  walk_at "wp"
  refine ⟨([c, d], 3), rfl, ⟨fun z hz => ?_, by show 1 ≤ 2; decide, by show ((2 : Nat) : Int) ≤ 3; decide, by show (3 : Int) ≤ 1000; decide⟩, ?_⟩
  · rcases List.mem_cons.mp hz with rfl | hz
    · exact hc
    · rw [List.mem_singleton.mp hz]
      exact hd
  unfold dChs
  walk_at "wp"
  simp only [dLoop]
  walk_at "wp"
  have l1 := lcm_pos p1 p2
  have l2 := lcm_le p1 p2 p3 p4
  have e1 := lcm_one _ p1
  have ok : ∀ z, z ∈ [c, d] → okC z := fun z hz => by
    rcases List.mem_cons.mp hz with rfl | hz
    · exact hc
    · rw [List.mem_singleton.mp hz]
      exact hd
  refine ⟨c, rfl, hc, (1, per c), rfl, ⟨by show (0 : Int) < 1; decide, p1, by show (1 : Int) ≤ 1000000000; decide, by show per c ≤ 1000000000; omega⟩, d, rfl, hd, (lcmI 1 (per c), per d), rfl, ⟨by show 0 < lcmI 1 (per c); omega, p2, by show lcmI 1 (per c) ≤ 1000000000; omega, by show per d ≤ 1000000000; omega⟩, ?_⟩
  unfold dLc
  walk_at "wp"
  refine comp_mapE (l := [c, d]) dCh (fun z => .int (thr z)) (by show 2 < 100000; decide) (fun z hz S3 R r => ?_) (.inl ⟨_, [thr c, thr d], rfl, rfl, by show 0 < 2; decide, fun m hm hle => ?_⟩)
  · walk_at "wp"
    exact ⟨z, rfl, ok z hz, r⟩
  have em : m = max (thr c) (thr d) := by
    have h1 := hle (thr c) (by simp)
    have h2 := hle (thr d) (by simp)
    have h3 : m = thr c ∨ m = thr d := by simpa using hm
    omega
  subst em
  refine ⟨_, rfl, .inl ⟨by decide, by decide⟩, .inl ⟨by decide, by decide⟩, ?_⟩
  rw [show 2 * max (thr c) (thr d) + 3 * lcmI (lcmI 1 (per c)) (per d) = pB c d from rfl]
  refine ⟨by omega, by omega, ?_⟩
  refine loop_rng (fun _ ds S2 => S2 = S ∧ ∃ x2 x4 x5 x6, ds = [some (.tup [dCh c, dCh d]), some (.int (lcmI (lcmI 1 (per c)) (per d))), x2, some (.int (pB c d)), x4, x5, x6]) ⟨rfl, _, _, _, _, rfl⟩ ?_ ?_
  · rintro i ds S2 N hi ⟨rfl, _, _, _, _, rfl⟩ hN
    walk_at "wp"
    rw [Int.zero_add]
    refine comp_mapE (l := [c, d]) dCh (fun z => .int (shown z (i : Int)).2.2) (by show 2 < 100000; decide) (fun z hz S3 R r => ?_) (.inl ⟨_, [(shown c (i : Int)).2.2, (shown d (i : Int)).2.2], rfl, rfl, ?_⟩)
    · walk_at "wp"
      exact ⟨(z, (i : Int)), rfl, ⟨(ok z hz).2, by show 0 ≤ (i : Int); omega, by show (i : Int) ≤ 10 ^ 18; omega⟩, _, rfl, _, at_2, r⟩
    · have hs : (shown c (i : Int)).2.2 + (shown d (i : Int)).2.2 = i := hsum i hi
      have e : ([(shown c (i : Int)).2.2, (shown d (i : Int)).2.2] : List Int).sum = (i : Int) := by
        simp only [List.sum_cons, List.sum_nil]
        omega
      rw [e]
      exact ⟨_, sEq_ii, iteN (by simp) (hN _ _ ⟨rfl, _, _, _, _, rfl⟩)⟩
  · rintro ds S2 ⟨rfl, _, _, _, _, rfl⟩
    walk_at "wp"
    rw [show enumD [dCh c, dCh d] = [.tup [.int 0, dCh c], .tup [.int 1, dCh d]] from rfl]
    simp only [dLoop]
    walk_at "wp"
    have c0 : cutG [dCh c, dCh d] none (some (0 : Int)) = ([] : List (List Sl)).map dCh := cutG_to (i := 0)
    have c1 : cutG [dCh c, dCh d] none (some (1 : Int)) = [c].map dCh := cutG_to (i := 1)
    rw [c0, c1]
    refine comp_mapE (l := []) dCh (fun z => .bl true) (by show 0 < 100000; decide) (fun z hz => nomatch hz) (.inl ⟨_, [], rfl, rfl, _, rfl, iteN (by decide) ?_⟩)
    refine comp_mapE (l := [c]) dCh (fun z => .bl (apartB d c (pB c d).toNat)) (by show 1 < 100000; decide) (fun z hz S3 R r => ?_) (.inl ⟨_, [apartB d c (pB c d).toNat], rfl, rfl, _, rfl, iteN ?_ q⟩)
    · rw [List.mem_singleton.mp hz]
      walk_at "wp"
      exact ⟨(d, c, pB c d), rfl, ⟨hd, hc, bB.1, bB.2⟩, r⟩
    · rw [show apartB d c (pB c d).toNat = true from hap]
      decide
end Sc

/-! how far from the ends of the list the first and the last kept place lie -/
namespace Sm
theorem begP_near (o : Option Int) : ∃ x : Int, (x = 0 ∨ x = 1) ∧ (∀ c j : Int, absB o ≤ c → 0 ≤ j → begP o (c + j) = begP o c + j * x) ∧ (x = 0 → ∀ c : Int, absB o ≤ c → 0 ≤ begP o c ∧ begP o c ≤ absB o) ∧ (x = 1 → ∀ c : Int, absB o ≤ c → c - absB o ≤ begP o c ∧ begP o c ≤ c) := by
  cases o with
  | none => exact ⟨0, .inl rfl, fun c j _ _ => by simp [begP], fun _ c _ => ⟨Int.le_refl _, absB_nn _⟩, fun h => absurd h (by decide)⟩
  | some b =>
    have e : absB (some b) = (b.natAbs : Int) := rfl
    by_cases h : b < 0
    · refine ⟨1, .inr rfl, fun c j h1 h2 => ?_, fun h => absurd h (by decide), fun _ c h1 => ?_⟩ <;>
      · rw [e] at *
        simp only [begP, moved, if_pos h]
        omega
    · refine ⟨0, .inl rfl, fun c j h1 h2 => ?_, fun _ c h1 => ?_, fun h => absurd h (by decide)⟩ <;>
      · rw [e] at *
        simp only [begP, moved, if_neg h]
        omega
theorem endP_near (o : Option Int) : ∃ x : Int, (x = 0 ∨ x = 1) ∧ (∀ c j : Int, absB o ≤ c → 0 ≤ j → endP o (c + j) = endP o c + j * x) ∧ (x = 0 → ∀ c : Int, absB o ≤ c → 0 ≤ endP o c ∧ endP o c ≤ absB o) ∧ (x = 1 → ∀ c : Int, absB o ≤ c → c - absB o ≤ endP o c ∧ endP o c ≤ c) := by
  cases o with
  | none => exact ⟨1, .inr rfl, fun c j _ _ => by simp [endP], fun h => absurd h (by decide), fun _ c _ => ⟨by have := absB_nn none; show c - absB none ≤ c; omega, Int.le_refl _⟩⟩
  | some b =>
    have e : absB (some b) = (b.natAbs : Int) := rfl
    by_cases h : b < 0
    · refine ⟨1, .inr rfl, fun c j h1 h2 => ?_, fun h => absurd h (by decide), fun _ c h1 => ?_⟩ <;>
      · rw [e] at *
        simp only [endP, moved, if_pos h]
        omega
    · refine ⟨0, .inl rfl, fun c j h1 h2 => ?_, fun _ c h1 => ?_, fun h => absurd h (by decide)⟩ <;>
      · rw [e] at *
        simp only [endP, moved, if_neg h]
        omega
theorem begN_near (o : Option Int) : ∃ x : Int, (x = 0 ∨ x = 1) ∧ (∀ c j : Int, 1 + absB o ≤ c → 0 ≤ j → begN o (c + j) = begN o c + j * x) ∧ (x = 0 → ∀ c : Int, 1 + absB o ≤ c → -1 ≤ begN o c ∧ begN o c ≤ absB o) ∧ (x = 1 → ∀ c : Int, 1 + absB o ≤ c → c - 1 - absB o ≤ begN o c ∧ begN o c ≤ c - 1) := by
  cases o with
  | none => exact ⟨1, .inr rfl, fun c j _ _ => by simp only [begN]; omega, fun h => absurd h (by decide), fun _ c _ => ⟨by have := absB_nn none; show c - 1 - absB none ≤ c - 1; omega, Int.le_refl _⟩⟩
  | some b =>
    have e : absB (some b) = (b.natAbs : Int) := rfl
    by_cases h : b < 0
    · refine ⟨1, .inr rfl, fun c j h1 h2 => ?_, fun h => absurd h (by decide), fun _ c h1 => ?_⟩ <;>
      · rw [e] at *
        simp only [begN, moved, if_pos h]
        omega
    · refine ⟨0, .inl rfl, fun c j h1 h2 => ?_, fun _ c h1 => ?_, fun h => absurd h (by decide)⟩ <;>
      · rw [e] at *
        simp only [begN, moved, if_neg h]
        omega
theorem endN_near (o : Option Int) : ∃ x : Int, (x = 0 ∨ x = 1) ∧ (∀ c j : Int, 1 + absB o ≤ c → 0 ≤ j → endN o (c + j) = endN o c + j * x) ∧ (x = 0 → ∀ c : Int, 1 + absB o ≤ c → -1 ≤ endN o c ∧ endN o c ≤ absB o) ∧ (x = 1 → ∀ c : Int, 1 + absB o ≤ c → c - absB o ≤ endN o c ∧ endN o c ≤ c - 1) := by
  cases o with
  | none => exact ⟨0, .inl rfl, fun c j _ _ => by simp only [endN]; omega, fun _ c _ => ⟨Int.le_refl _, by have := absB_nn none; show (-1 : Int) ≤ absB none; omega⟩, fun h => absurd h (by decide)⟩
  | some b =>
    have e : absB (some b) = (b.natAbs : Int) := rfl
    by_cases h : b < 0
    · refine ⟨1, .inr rfl, fun c j h1 h2 => ?_, fun h => absurd h (by decide), fun _ c h1 => ?_⟩ <;>
      · rw [e] at *
        simp only [endN, moved, if_pos h]
        omega
    · refine ⟨0, .inl rfl, fun c j h1 h2 => ?_, fun _ c h1 => ?_, fun h => absurd h (by decide)⟩ <;>
      · rw [e] at *
        simp only [endN, moved, if_neg h]
        omega
/-- of a count by ceiling: the last one below, and the next not -/
theorem ceil_last {D t : Int} (ht : 0 < t) : D ≤ t * max 0 ((D + t - 1) / t) := by
  have h1 := Int.mul_ediv_add_emod (D + t - 1) t
  have h2 := Int.emod_lt_of_pos (D + t - 1) ht
  obtain ⟨z, ez⟩ : ∃ z, z = (D + t - 1) / t := ⟨_, rfl⟩
  rw [← ez] at h1 ⊢
  by_cases h : 0 ≤ z
  · rw [show max 0 z = z by omega]
    omega
  · rw [show max 0 z = 0 by omega, Int.mul_zero]
    have : t * z ≤ t * (-1) := Int.mul_le_mul_of_nonneg_left (by omega) (by omega)
    omega
theorem ceil_below {D t i : Int} (ht : 0 < t) (h0 : 0 ≤ i) (h : i < max 0 ((D + t - 1) / t)) : t * i < D := by
  have h2 : i + 1 ≤ (D + t - 1) / t := by omega
  rw [Int.le_ediv_iff_mul_le ht, Int.add_mul, Int.mul_comm i t] at h2
  omega
/-- one slice of a list of enough items: it keeps items from end to end, or some at the start, or some at the end -/
theorem slice_near (s : Sl) (hs : okS s) : ∃ x y : Int, (x = 0 ∨ x = 1) ∧ (y = 0 ∨ y = 1) ∧ (∀ c j : Int, 1 + absB s.1 + absB s.2.1 ≤ c → 0 ≤ j →
    (endsOf s (c + (s.2.2.natAbs : Int) * j)).1 = (endsOf s c).1 + ((s.2.2.natAbs : Int) * j) * x ∧ manyOf s (c + (s.2.2.natAbs : Int) * j) = manyOf s c + j * y) ∧
    ∀ c : Int, 1 + absB s.1 + absB s.2.1 ≤ c →
      (y = 1 ∧ 0 < s.2.2 ∧ x = 0 ∧ (endsOf s c).1 ≤ absB s.1 ∧ c - absB s.2.1 - s.2.2 ≤ (endsOf s c).1 + s.2.2 * (manyOf s c - 1)) ∨
      (y = 1 ∧ s.2.2 < 0 ∧ x = 1 ∧ c - 1 - absB s.1 ≤ (endsOf s c).1 ∧ (endsOf s c).1 + s.2.2 * (manyOf s c - 1) ≤ absB s.2.1 - s.2.2) ∨
      (y = 0 ∧ x = 0 ∧ ∀ i : Int, 0 ≤ i → i < manyOf s c → (endsOf s c).1 + s.2.2 * i ≤ absB s.1 + absB s.2.1) ∨
      (y = 0 ∧ x = 1 ∧ ∀ i : Int, 0 ≤ i → i < manyOf s c → c - 1 - absB s.1 - absB s.2.1 ≤ (endsOf s c).1 + s.2.2 * i) := by
  obtain ⟨a, b, t⟩ := s
  have ht : -3 ≤ t ∧ t ≤ 3 ∧ t ≠ 0 := hs.2.2
  have a1 := absB_nn a
  have b1 := absB_nn b
  show ∃ x y : Int, (x = 0 ∨ x = 1) ∧ (y = 0 ∨ y = 1) ∧ (∀ c j : Int, 1 + absB a + absB b ≤ c → 0 ≤ j →
    (endsOf (a, b, t) (c + (t.natAbs : Int) * j)).1 = (endsOf (a, b, t) c).1 + ((t.natAbs : Int) * j) * x ∧ manyOf (a, b, t) (c + (t.natAbs : Int) * j) = manyOf (a, b, t) c + j * y) ∧
    ∀ c : Int, 1 + absB a + absB b ≤ c →
      (y = 1 ∧ 0 < t ∧ x = 0 ∧ (endsOf (a, b, t) c).1 ≤ absB a ∧ c - absB b - t ≤ (endsOf (a, b, t) c).1 + t * (manyOf (a, b, t) c - 1)) ∨
      (y = 1 ∧ t < 0 ∧ x = 1 ∧ c - 1 - absB a ≤ (endsOf (a, b, t) c).1 ∧ (endsOf (a, b, t) c).1 + t * (manyOf (a, b, t) c - 1) ≤ absB b - t) ∨
      (y = 0 ∧ x = 0 ∧ ∀ i : Int, 0 ≤ i → i < manyOf (a, b, t) c → (endsOf (a, b, t) c).1 + t * i ≤ absB a + absB b) ∨
      (y = 0 ∧ x = 1 ∧ ∀ i : Int, 0 ≤ i → i < manyOf (a, b, t) c → c - 1 - absB a - absB b ≤ (endsOf (a, b, t) c).1 + t * i)
  by_cases h0 : 0 < t
  · have et : (t.natAbs : Int) = t := by omega
    obtain ⟨x, hx, kx, nx0, nx1⟩ := begP_near a
    obtain ⟨y, hy, ky, ny0, ny1⟩ := endP_near b
    rw [et]
    have tj : ∀ j : Int, 0 ≤ j → 0 ≤ t * j := fun j hj => Int.mul_nonneg (by omega) hj
    refine ⟨x, if x = 0 ∧ y = 1 then 1 else 0, hx, by split <;> omega, fun c j hc hj => ?_, fun c hc => ?_⟩
    · have k1 := kx c (t * j) (by omega) (tj j hj)
      have k2 := ky c (t * j) (by omega) (tj j hj)
      rw [ends_pos h0, ends_pos h0, many_pos h0, many_pos h0]
      refine ⟨k1, ?_⟩
      have j0 := tj j hj
      rcases hx with rfl | rfl <;> rcases hy with rfl | rfl
      · rw [k1, k2]; simp
      · rw [k1, k2]
        simp only [Int.mul_zero, Int.mul_one, Int.add_zero, and_self, if_true]
        have d : endP b c + t * j - begP a c + t - 1 = (endP b c - begP a c) + t * j + t - 1 := by omega
        rw [d]
        have z1 := nx0 rfl c (by omega)
        have z2 := ny1 rfl c (by omega)
        exact ceil_add h0 (by omega) hj
      · have n1 : ¬ ((1 : Int) = 0 ∧ (0 : Int) = 1) := by omega
        rw [if_neg n1, Int.mul_zero, Int.add_zero]
        have z1 := nx1 rfl c (by omega)
        have z2 := ny0 rfl c (by omega)
        rw [ceil_zero h0 (by omega), ceil_zero h0 (by omega)]
      · rw [k1, k2]
        have n1 : ¬ ((1 : Int) = 0 ∧ (1 : Int) = 1) := by omega
        rw [if_neg n1, Int.mul_zero, Int.add_zero]
        have d : endP b c + t * j * 1 - (begP a c + t * j * 1) + t - 1 = endP b c - begP a c + t - 1 := by omega
        rw [d]
    · rw [ends_pos h0, many_pos h0]
      show (_ ∧ 0 < t ∧ x = 0 ∧ begP a c ≤ absB a ∧ c - absB b - t ≤ begP a c + t * (max 0 ((endP b c - begP a c + t - 1) / t) - 1)) ∨ _ ∨ (_ ∧ x = 0 ∧ ∀ i : Int, 0 ≤ i → i < max 0 ((endP b c - begP a c + t - 1) / t) → begP a c + t * i ≤ absB a + absB b) ∨
        (_ ∧ x = 1 ∧ ∀ i : Int, 0 ≤ i → i < max 0 ((endP b c - begP a c + t - 1) / t) → c - 1 - absB a - absB b ≤ begP a c + t * i)
      rcases hx with rfl | rfl <;> rcases hy with rfl | rfl
      · have z1 := nx0 rfl c (by omega)
        have z2 := ny0 rfl c (by omega)
        refine .inr (.inr (.inl ⟨by simp, rfl, fun i i0 i1 => ?_⟩))
        have := ceil_below h0 i0 i1
        omega
      · have z1 := nx0 rfl c (by omega)
        have z2 := ny1 rfl c (by omega)
        refine .inl ⟨by simp, h0, rfl, z1.2, ?_⟩
        have := ceil_last (D := endP b c - begP a c) h0
        rw [Int.mul_sub]
        omega
      · have z1 := nx1 rfl c (by omega)
        have z2 := ny0 rfl c (by omega)
        refine .inr (.inr (.inr ⟨by simp, rfl, fun i i0 i1 => ?_⟩))
        have := tj i i0
        omega
      · have z1 := nx1 rfl c (by omega)
        refine .inr (.inr (.inr ⟨by simp, rfl, fun i i0 i1 => ?_⟩))
        have := tj i i0
        omega
  · have et : (t.natAbs : Int) = -t := by omega
    obtain ⟨x, hx, kx, nx0, nx1⟩ := begN_near a
    obtain ⟨y, hy, ky, ny0, ny1⟩ := endN_near b
    rw [et]
    obtain ⟨u, rfl⟩ : ∃ u, t = -u := ⟨-t, by omega⟩
    have eu : - -u = u := by omega
    rw [eu]
    have hu : 0 < u := by omega
    have tj : ∀ j : Int, 0 ≤ j → 0 ≤ u * j := fun j hj => Int.mul_nonneg (by omega) hj
    have r : ∀ p q : Int, p - q - -u - 1 = p - q + u - 1 := fun p q => by omega
    refine ⟨x, if x = 1 ∧ y = 0 then 1 else 0, hx, by split <;> omega, fun c j hc hj => ?_, fun c hc => ?_⟩
    · have k1 := kx c (u * j) (by omega) (tj j hj)
      have k2 := ky c (u * j) (by omega) (tj j hj)
      rw [ends_neg h0, ends_neg h0, many_neg h0, many_neg h0, eu]
      refine ⟨k1, ?_⟩
      have j0 := tj j hj
      rw [r, r]
      rcases hx with rfl | rfl <;> rcases hy with rfl | rfl
      · rw [k1, k2]; simp
      · have n1 : ¬ ((0 : Int) = 1 ∧ (1 : Int) = 0) := by omega
        rw [if_neg n1, Int.mul_zero, Int.add_zero]
        have z1 := nx0 rfl c (by omega)
        have z2 := ny1 rfl c (by omega)
        simp only [Int.mul_zero, Int.mul_one, Int.add_zero] at k1 k2
        rw [k1, k2, ceil_zero hu (by omega), ceil_zero hu (by omega)]
      · rw [k1, k2]
        simp only [Int.mul_zero, Int.mul_one, Int.add_zero, and_self, if_true]
        have d : begN a c + u * j - endN b c + u - 1 = (begN a c - endN b c) + u * j + u - 1 := by omega
        rw [d]
        have z1 := nx1 rfl c (by omega)
        have z2 := ny0 rfl c (by omega)
        exact ceil_add hu (by omega) hj
      · rw [k1, k2]
        have n1 : ¬ ((1 : Int) = 1 ∧ (1 : Int) = 0) := by omega
        rw [if_neg n1, Int.mul_zero, Int.add_zero]
        have d : begN a c + u * j * 1 - (endN b c + u * j * 1) + u - 1 = begN a c - endN b c + u - 1 := by omega
        rw [d]
    · rw [ends_neg h0, many_neg h0, eu, r]
      show _ ∨ (_ ∧ -u < 0 ∧ x = 1 ∧ c - 1 - absB a ≤ begN a c ∧ begN a c + -u * (max 0 ((begN a c - endN b c + u - 1) / u) - 1) ≤ absB b - -u) ∨ (_ ∧ x = 0 ∧ ∀ i : Int, 0 ≤ i → i < max 0 ((begN a c - endN b c + u - 1) / u) → begN a c + -u * i ≤ absB a + absB b) ∨
        (_ ∧ x = 1 ∧ ∀ i : Int, 0 ≤ i → i < max 0 ((begN a c - endN b c + u - 1) / u) → c - 1 - absB a - absB b ≤ begN a c + -u * i)
      rcases hx with rfl | rfl <;> rcases hy with rfl | rfl
      · have z1 := nx0 rfl c (by omega)
        refine .inr (.inr (.inl ⟨by simp, rfl, fun i i0 i1 => ?_⟩))
        have := tj i i0
        rw [Int.neg_mul]
        omega
      · have z1 := nx0 rfl c (by omega)
        refine .inr (.inr (.inl ⟨by simp, rfl, fun i i0 i1 => ?_⟩))
        have := tj i i0
        rw [Int.neg_mul]
        omega
      · have z1 := nx1 rfl c (by omega)
        have z2 := ny0 rfl c (by omega)
        refine .inr (.inl ⟨by simp, by omega, rfl, z1.1, ?_⟩)
        have := ceil_last (D := begN a c - endN b c) hu
        rw [Int.neg_mul, Int.mul_sub]
        omega
      · have z1 := nx1 rfl c (by omega)
        have z2 := ny1 rfl c (by omega)
        refine .inr (.inr (.inr ⟨by simp, rfl, fun i i0 i1 => ?_⟩))
        have := ceil_below hu i0 i1
        rw [Int.neg_mul]
        omega
end Sm

namespace Sm
/-- the form of a class, with how far its ends lie from those of the list -/
def Near (T w n f s q m g : Int) : Prop :=
  (g = 1 ∧ s = w ∧ m = 0 ∧ f ≤ T + w - 1 ∧ n - T - w ≤ f + w * (q - 1)) ∨
  (g = 1 ∧ s = -w ∧ m = 1 ∧ n - T - w ≤ f ∧ f - w * (q - 1) ≤ T + w - 1) ∨
  (g = 0 ∧ (s = w ∨ s = -w) ∧ m = 0 ∧ ∀ i : Int, 0 ≤ i → i < q → f + s * i ≤ T + w - 1) ∨
  (g = 0 ∧ (s = w ∨ s = -w) ∧ m = 1 ∧ ∀ i : Int, 0 ≤ i → i < q → n - T - w ≤ f + s * i)
def Lin4 (T w : Int) (F : Int → Pg) : Prop := ∀ n, T ≤ n → ∃ f s q m g : Int, 0 ≤ q ∧ Near T w n f s q m g ∧ ∀ k : Int, 0 ≤ k → F (n + k * w) = (f + k * (m * w), s, q + k * g)
theorem lin4_step {T w : Int} {F : Int → Pg} (h : Lin4 T w F) (hw : 0 < w) {s : Sl} (hs : okS s) : Lin4 (T + w * (1 + absB s.1 + absB s.2.1)) (w * (s.2.2.natAbs : Int)) (fun n => applied s (F n)) := by
  intro n hn
  have hs3 := hs.2.2
  obtain ⟨τ, eτ⟩ : ∃ τ : Int, τ = (s.2.2.natAbs : Int) := ⟨_, rfl⟩
  have hτ : 0 < τ := by omega
  have a1 := absB_nn s.1
  have b1 := absB_nn s.2.1
  obtain ⟨A, eA⟩ : ∃ A : Int, A = absB s.1 := ⟨_, rfl⟩
  obtain ⟨B, eB⟩ : ∃ B : Int, B = absB s.2.1 := ⟨_, rfl⟩
  obtain ⟨L, eL⟩ : ∃ L : Int, L = 1 + A + B := ⟨_, rfl⟩
  obtain ⟨x, y, hx, hy, z, near⟩ := slice_near s hs
  rw [← eA, ← eB] at hn ⊢
  rw [← eA, ← eB] at z near
  rw [← eA] at a1
  rw [← eB] at b1
  rw [← eτ] at z ⊢
  rw [← eL] at hn z near ⊢
  have hL : 0 ≤ L := by omega
  obtain ⟨f, σ, q, m, g, hq, hnr, k⟩ := h (n - L * w) (by rw [Int.mul_comm L w]; omega)
  have go : ∀ k : Int, 0 ≤ k → F (n + k * (w * τ)) = (f + (L + k * τ) * (m * w), σ, q + (L + k * τ) * g) := fun i hi => by
    rw [← k (L + i * τ) (by have := Int.mul_nonneg hi (Int.le_of_lt hτ); omega)]
    congr 1
    rw [Int.add_mul, Int.mul_assoc i τ w, Int.mul_comm τ w]
    omega
  have ww : w * 1 ≤ w * τ := Int.mul_le_mul_of_nonneg_left (by omega) (by omega)
  have wL : 0 ≤ w * L := Int.mul_nonneg (by omega) hL
  have wA : 0 ≤ w * A := Int.mul_nonneg (by omega) a1
  have wB : 0 ≤ w * B := Int.mul_nonneg (by omega) b1
  have wLe : w * L = w + w * A + w * B := by rw [eL, Int.mul_add, Int.mul_add, Int.mul_one]
  have Lw : L * w = w * L := Int.mul_comm _ _
  -- a list that does not grow
  have still : g = 0 → (σ = w ∨ σ = -w) → (∀ i : Int, 0 ≤ i → i < manyOf s q → Near (T + w * L) (w * τ) n (f + L * (m * w) + σ * (endsOf s q).1) (σ * s.2.2) 1 m 0 ∨ True) → ∀ i : Int, 0 ≤ i → applied s (F (n + i * (w * τ))) = (f + L * (m * w) + σ * (endsOf s q).1 + i * (m * (w * τ)), σ * s.2.2, manyOf s q + i * 0) := fun eg _ _ i hi => by
    rw [go i hi, eg]
    unfold applied
    simp only [Int.mul_zero, Int.add_zero]
    refine Prod.ext ?_ rfl
    show f + (L + i * τ) * (m * w) + σ * (endsOf s q).1 = f + L * (m * w) + σ * (endsOf s q).1 + i * (m * (w * τ))
    have e : i * τ * (m * w) = i * (m * (w * τ)) := by simp only [Int.mul_comm, Int.mul_left_comm, Int.mul_assoc]
    rw [Int.add_mul, e]
    omega
  have st : 0 < s.2.2 ∧ s.2.2 = τ ∨ ¬ 0 < s.2.2 ∧ s.2.2 = -τ := by omega
  have sg : (σ = w ∨ σ = -w) → (σ * s.2.2 = w * τ ∨ σ * s.2.2 = -(w * τ)) := fun hσ => by
    rcases hσ with e | e <;> rcases st with ⟨_, e2⟩ | ⟨_, e2⟩ <;> rw [e, e2]
    · exact .inl rfl
    · exact .inr (Int.mul_neg ..)
    · exact .inr (Int.neg_mul ..)
    · exact .inl (Int.neg_mul_neg ..)
  -- a list that grows
  have fin : g = 1 → ∀ m' : Int, (∀ i : Int, i * τ * (m * w) + σ * (τ * i * x) = i * (m' * (w * τ))) → ∀ i : Int, 0 ≤ i → applied s (F (n + i * (w * τ))) = (f + L * (m * w) + σ * (endsOf s (q + L)).1 + i * (m' * (w * τ)), σ * s.2.2, manyOf s (q + L) + i * y) := fun eg m' hm' i hi => by
    rw [go i hi, eg]
    have ec : q + (L + i * τ) * 1 = q + L + τ * i := by
      rw [Int.mul_one, Int.mul_comm i τ]
      omega
    rw [ec]
    have z2 := z (q + L) i (by omega) hi
    unfold applied
    refine Prod.ext ?_ (Prod.ext rfl z2.2)
    show f + (L + i * τ) * (m * w) + σ * (endsOf s (q + L + τ * i)).1 = f + L * (m * w) + σ * (endsOf s (q + L)).1 + i * (m' * (w * τ))
    rw [z2.1, ← hm' i, Int.add_mul, Int.mul_add σ]
    omega
  have nq := near (q + L) (by omega)
  obtain ⟨beg, ebeg⟩ : ∃ b, b = (endsOf s (q + L)).1 := ⟨_, rfl⟩
  obtain ⟨M, eM⟩ : ∃ b, b = manyOf s (q + L) := ⟨_, rfl⟩
  rw [← ebeg, ← eM] at nq
  rw [← ebeg, ← eM] at fin
  have hM : 0 ≤ M := by rw [eM]; exact many_nn _ _
  have mul : ∀ {a b : Int}, a ≤ b → w * a ≤ w * b := fun h => Int.mul_le_mul_of_nonneg_left h (by omega)
  rcases hnr with ⟨eg, es, em, n1, n2⟩ | ⟨eg, es, em, n1, n2⟩ | ⟨eg, es, em, n1⟩ | ⟨eg, es, em, n1⟩
  · -- forward
    have e1 : L * (m * w) = 0 := by rw [em, Int.zero_mul, Int.mul_zero]
    have hm : ∀ i : Int, i * τ * (m * w) + σ * (τ * i * x) = i * (x * (w * τ)) := fun i => by
      rw [em, es]
      simp only [Int.zero_mul, Int.mul_zero, Int.zero_add, Int.mul_comm, Int.mul_left_comm, Int.mul_assoc]
    have n3 : n - T - w ≤ f + w * (q + L - 1) := by
      have : w * (q + L - 1) = w * (q - 1) + w * L := by rw [← Int.mul_add]; congr 1; omega
      omega
    refine ⟨f + L * (m * w) + σ * beg, σ * s.2.2, M, x, y, hM, ?_, fin eg x hm⟩
    rw [e1, es]
    rcases nq with ⟨ey, ht, ex, k1, k2⟩ | ⟨ey, ht, ex, k1, k2⟩ | ⟨ey, ex, k1⟩ | ⟨ey, ex, k1⟩
    · have t1 : s.2.2 = τ := by omega
      rw [t1] at k2 ⊢
      refine .inl ⟨ey, rfl, ex, ?_, ?_⟩
      · have := mul k1
        omega
      · have := mul k2
        have e2 : w * (q + L - B - τ) = w * (q + L - 1) - w * B - w * τ + w := by simp only [Int.mul_sub, Int.mul_add, Int.mul_one]; omega
        have e3 : w * (beg + τ * (M - 1)) = w * beg + w * τ * (M - 1) := by rw [Int.mul_add, Int.mul_assoc]
        omega
    · have t1 : s.2.2 = -τ := by omega
      rw [t1] at k2 ⊢
      refine .inr (.inl ⟨ey, Int.mul_neg .., ex, ?_, ?_⟩)
      · have := mul k1
        have e2 : w * (q + L - 1 - A) = w * (q + L - 1) - w * A := Int.mul_sub ..
        omega
      · have := mul k2
        have e2 : w * (B - -τ) = w * B + w * τ := by rw [Int.mul_sub, Int.mul_neg]; omega
        have e3 : w * (beg + -τ * (M - 1)) = w * beg - w * τ * (M - 1) := by rw [Int.mul_add, Int.neg_mul, Int.mul_neg, Int.mul_assoc]; omega
        omega
    · refine .inr (.inr (.inl ⟨ey, by have := sg (.inl es); rw [es] at this; exact this, ex, fun i i0 i1 => ?_⟩))
      have := mul (k1 i i0 i1)
      have e3 : w * (beg + s.2.2 * i) = w * beg + w * s.2.2 * i := by rw [Int.mul_add, Int.mul_assoc]
      have e4 : w * (A + B) = w * A + w * B := Int.mul_add ..
      omega
    · refine .inr (.inr (.inr ⟨ey, by have := sg (.inl es); rw [es] at this; exact this, ex, fun i i0 i1 => ?_⟩))
      have := mul (k1 i i0 i1)
      have e3 : w * (beg + s.2.2 * i) = w * beg + w * s.2.2 * i := by rw [Int.mul_add, Int.mul_assoc]
      have e4 : w * (q + L - 1 - A - B) = w * (q + L - 1) - w * A - w * B := by rw [Int.mul_sub, Int.mul_sub]
      omega
  · -- backward
    have e1 : L * (m * w) = w * L := by rw [em, Int.one_mul, Int.mul_comm]
    have hm : ∀ i : Int, i * τ * (m * w) + σ * (τ * i * x) = i * ((1 - x) * (w * τ)) := fun i => by
      rw [em, es]
      rcases hx with rfl | rfl
      · simp only [Int.sub_zero, Int.one_mul, Int.mul_zero, Int.add_zero, Int.mul_comm, Int.mul_left_comm, Int.mul_assoc]
      · have e3 : (1 : Int) - 1 = 0 := by decide
        rw [e3, Int.zero_mul, Int.mul_zero, Int.one_mul, Int.mul_one, Int.neg_mul]
        have e4 : i * τ * w = w * (τ * i) := by simp only [Int.mul_comm, Int.mul_left_comm, Int.mul_assoc]
        rw [e4]
        omega
    have n3 : f + w * L - w * (q + L - 1) ≤ T + w - 1 := by
      have : w * (q + L - 1) = w * (q - 1) + w * L := by rw [← Int.mul_add]; congr 1; omega
      omega
    refine ⟨f + L * (m * w) + σ * beg, σ * s.2.2, M, 1 - x, y, hM, ?_, fin eg (1 - x) hm⟩
    rw [e1, es, Int.neg_mul]
    rcases nq with ⟨ey, ht, ex, k1, k2⟩ | ⟨ey, ht, ex, k1, k2⟩ | ⟨ey, ex, k1⟩ | ⟨ey, ex, k1⟩
    · have t1 : s.2.2 = τ := by omega
      rw [t1] at k2 ⊢
      refine .inr (.inl ⟨ey, Int.neg_mul .., by omega, ?_, ?_⟩)
      · have := mul k1
        omega
      · have := mul k2
        have e2 : w * (q + L - B - τ) = w * (q + L - 1) - w * B - w * τ + w := by simp only [Int.mul_sub, Int.mul_add, Int.mul_one]; omega
        have e3 : w * (beg + τ * (M - 1)) = w * beg + w * τ * (M - 1) := by rw [Int.mul_add, Int.mul_assoc]
        omega
    · have t1 : s.2.2 = -τ := by omega
      rw [t1] at k2 ⊢
      refine .inl ⟨ey, Int.neg_mul_neg .., by omega, ?_, ?_⟩
      · have := mul k1
        have e2 : w * (q + L - 1 - A) = w * (q + L - 1) - w * A := Int.mul_sub ..
        omega
      · have := mul k2
        have e2 : w * (B - -τ) = w * B + w * τ := by rw [Int.mul_sub, Int.mul_neg]; omega
        have e3 : w * (beg + -τ * (M - 1)) = w * beg - w * τ * (M - 1) := by rw [Int.mul_add, Int.neg_mul, Int.mul_neg, Int.mul_assoc]; omega
        omega
    · refine .inr (.inr (.inr ⟨ey, by have := sg (.inr es); rw [es] at this; exact this, by omega, fun i i0 i1 => ?_⟩))
      have := mul (k1 i i0 i1)
      have e3 : w * (beg + s.2.2 * i) = w * beg + w * s.2.2 * i := by rw [Int.mul_add, Int.mul_assoc]
      have e4 : w * (A + B) = w * A + w * B := Int.mul_add ..
      rw [Int.neg_mul, Int.neg_mul]
      omega
    · refine .inr (.inr (.inl ⟨ey, by have := sg (.inr es); rw [es] at this; exact this, by omega, fun i i0 i1 => ?_⟩))
      have := mul (k1 i i0 i1)
      have e3 : w * (beg + s.2.2 * i) = w * beg + w * s.2.2 * i := by rw [Int.mul_add, Int.mul_assoc]
      have e4 : w * (q + L - 1 - A - B) = w * (q + L - 1) - w * A - w * B := by rw [Int.mul_sub, Int.mul_sub]
      rw [Int.neg_mul, Int.neg_mul]
      omega
  · -- items at the start
    refine ⟨f + L * (m * w) + σ * (endsOf s q).1, σ * s.2.2, manyOf s q, m, 0, many_nn _ _, ?_, still eg es fun _ _ _ => .inr trivial⟩
    refine .inr (.inr (.inl ⟨rfl, sg es, em, fun i i0 i1 => ?_⟩))
    have pl := slice_place hs hq i0 i1
    have := n1 _ pl.1 pl.2
    rw [Int.mul_add, ← Int.mul_assoc] at this
    rw [em, Int.zero_mul, Int.mul_zero]
    omega
  · -- items at the end
    refine ⟨f + L * (m * w) + σ * (endsOf s q).1, σ * s.2.2, manyOf s q, m, 0, many_nn _ _, ?_, still eg es fun _ _ _ => .inr trivial⟩
    refine .inr (.inr (.inr ⟨rfl, sg es, em, fun i i0 i1 => ?_⟩))
    have pl := slice_place hs hq i0 i1
    have := n1 _ pl.1 pl.2
    rw [Int.mul_add, ← Int.mul_assoc] at this
    rw [em, Int.one_mul]
    omega
theorem lin4_wts : ∀ (c : List Sl) (p : Int × Int) (F : Int → Pg), (∀ s, s ∈ c → okS s) → 0 < p.2 → Lin4 p.1 p.2 F → Lin4 (wts c p).1 (wts c p).2 (fun n => shownF c (F n))
  | [], p, F, _, _, h => h
  | s :: c, p, F, hc, hp, h => by
    have hs := hc s List.mem_cons_self
    have h3 := hs.2.2
    exact lin4_wts c (p.1 + p.2 * (1 + absB s.1 + absB s.2.1), p.2 * (s.2.2.natAbs : Int)) _ (fun s hs => hc s (List.mem_cons_of_mem _ hs)) (Int.mul_pos hp (by omega)) (lin4_step h hp hs)
theorem lin4_shown {c : List Sl} (hc : okC c) : Lin4 (thr c) (per c) (shown c) := by
  refine lin4_wts c (0, 1) (fun n => (0, 1, n)) hc.2 (by decide) fun n hn => ⟨0, 1, n, 0, 1, hn, .inl ⟨rfl, rfl, rfl, by decide, ?_⟩, fun k _ => ?_⟩
  · show n - 0 - 1 ≤ 0 + 1 * (n - 1)
    omega
  · show ((0 : Int), (1 : Int), n + k * 1) = (0 + k * (0 * 1), 1, n + k * 1)
    rw [Int.zero_mul, Int.mul_zero]
    rfl
end Sm

/-! a place that two chains share stays one, or moves with the end, when the list grows shorter by the common period -/
namespace Sm
theorem stay {T w : Int} {F : Int → Pg} (h : Lin4 T w F) (hw : 0 < w) {n k : Int} (hn : T ≤ n) (hk : 0 ≤ k) {v : Int} (hv : onP (F (n + k * w)) v) :
    (v ≤ n - 1 - T → onP (F n) v) ∧ (T ≤ v - k * w → onP (F n) (v - k * w)) := by
  obtain ⟨f, s, q, m, g, hq, nr, z⟩ := h n hn
  have e0 := z 0 (Int.le_refl _)
  simp only [Int.zero_mul, Int.add_zero] at e0
  rw [z k hk] at hv
  rw [e0]
  have kw : 0 ≤ k * w := Int.mul_nonneg hk (by omega)
  have k1 : k = 0 ∨ w ≤ k * w := by
    by_cases h : k = 0
    · exact .inl h
    · right
      have : 1 * w ≤ k * w := Int.mul_le_mul_of_nonneg_right (by omega) (by omega)
      omega
  obtain ⟨i, i0, i1, e⟩ := hv
  have mul : ∀ {a b : Int}, a ≤ b → w * a ≤ w * b := fun h => Int.mul_le_mul_of_nonneg_left h (by omega)
  rcases nr with ⟨rfl, rfl, rfl, n1, n2⟩ | ⟨rfl, rfl, rfl, n1, n2⟩ | ⟨rfl, es, rfl, n1⟩ | ⟨rfl, es, rfl, n1⟩
  · have i1 : i < q + k * 1 := i1
    have e : f + k * (0 * s) + s * i = v := e
    rw [Int.zero_mul, Int.mul_zero, Int.add_zero] at e
    constructor
    · intro hv
      refine ⟨i, i0, ?_, e⟩
      by_cases hi : i < q
      · exact hi
      · have a := mul (show q ≤ i by omega)
        rw [Int.mul_sub] at n2
        omega
    · intro hv
      have e2 : s * (i - k) = s * i - k * s := by rw [Int.mul_sub, Int.mul_comm k s]
      refine ⟨i - k, ?_, by show i - k < q; omega, by show f + s * (i - k) = v - k * s; omega⟩
      by_cases hi : k ≤ i
      · omega
      · have a := mul (show i - k ≤ -1 by omega)
        omega
  · have i1 : i < q + k * 1 := i1
    have e : f + k * (1 * w) + -w * i = v := e
    rw [Int.one_mul, Int.neg_mul] at e
    have e2 : w * (i - k) = w * i - k * w := by rw [Int.mul_sub, Int.mul_comm k w]
    constructor
    · intro hv
      refine ⟨i - k, ?_, by show i - k < q; omega, by show f + -w * (i - k) = v; rw [Int.neg_mul]; omega⟩
      by_cases hi : k ≤ i
      · omega
      · have a := mul (show i - k ≤ -1 by omega)
        omega
    · intro hv
      refine ⟨i, i0, ?_, by show f + -w * i = v - k * w; rw [Int.neg_mul]; omega⟩
      by_cases hi : i < q
      · exact hi
      · have a := mul (show q ≤ i by omega)
        rw [Int.mul_sub] at n2
        omega
  · have i2 : i < q := by
      have i1 : i < q + k * 0 := i1
      omega
    have e : f + k * (0 * w) + s * i = v := e
    rw [Int.zero_mul, Int.mul_zero, Int.add_zero] at e
    have b := n1 i i0 i2
    refine ⟨fun _ => ⟨i, i0, i2, e⟩, fun hv => ?_⟩
    rcases k1 with rfl | k1
    · exact ⟨i, i0, i2, by show f + s * i = v - 0 * w; rw [Int.zero_mul]; omega⟩
    · omega
  · have i2 : i < q := by
      have i1 : i < q + k * 0 := i1
      omega
    have e : f + k * (1 * w) + s * i = v := e
    rw [Int.one_mul] at e
    have b := n1 i i0 i2
    refine ⟨fun hv => ?_, fun hv => ⟨i, i0, i2, by show f + s * i = v - k * w; omega⟩⟩
    rcases k1 with rfl | k1
    · exact ⟨i, i0, i2, by show f + s * i = v; rw [Int.zero_mul] at e; omega⟩
    · omega
/-- the two chains share a place of a list of n items -/
def shareP (c d : List Sl) (n : Int) : Prop := ∃ v, onP (shown c n) v ∧ onP (shown d n) v
theorem share_back {c d : List Sl} (hc : okC c) (hd : okC d) {n : Int} (hn : 2 * lastT c d + bothP c d ≤ n) (h : shareP c d (n + bothP c d)) : shareP c d n := by
  have p1 := per_pos hc
  have p2 := per_pos hd
  have pos := bothP_pos hc hd
  have t1 := thr_nn hc
  have t2 := thr_nn hd
  obtain ⟨x, hx⟩ := Nat.dvd_lcm_left (per c).natAbs (per d).natAbs
  obtain ⟨y, hy⟩ := Nat.dvd_lcm_right (per c).natAbs (per d).natAbs
  have e1 : bothP c d = (x : Int) * per c := by
    unfold bothP lcmI
    rw [hx, Int.natCast_mul, Int.mul_comm, Int.natAbs_of_nonneg (by omega)]
  have e2 : bothP c d = (y : Int) * per d := by
    unfold bothP lcmI
    rw [hy, Int.natCast_mul, Int.mul_comm, Int.natAbs_of_nonneg (by omega)]
  obtain ⟨P, eP⟩ : ∃ P, P = bothP c d := ⟨_, rfl⟩
  obtain ⟨T, eT⟩ : ∃ T, T = lastT c d := ⟨_, rfl⟩
  have l1 : thr c ≤ T := by rw [eT]; unfold lastT; omega
  have l2 : thr d ≤ T := by rw [eT]; unfold lastT; omega
  rw [← eP, ← eT] at hn
  rw [← eP] at h e1 e2 pos
  obtain ⟨v, h1, h2⟩ := h
  have s1 := stay (lin4_shown hc) p1 (n := n) (k := (x : Int)) (by omega) (by omega) (v := v) (by rw [← e1]; exact h1)
  have s2 := stay (lin4_shown hd) p2 (n := n) (k := (y : Int)) (by omega) (by omega) (v := v) (by rw [← e2]; exact h2)
  rw [← e1] at s1
  rw [← e2] at s2
  by_cases hv : v ≤ n - 1 - T
  · exact ⟨v, s1.1 (by omega), s2.1 (by omega)⟩
  · exact ⟨v - P, s1.2 (by omega), s2.2 (by omega)⟩
/-- what is shared in some list is shared in a short one -/
theorem share_low {c d : List Sl} (hc : okC c) (hd : okC d) {N : Int} (hN : 2 * lastT c d + 2 * bothP c d ≤ N) : ∀ (k : Nat) (n : Int), n < N + k → 0 ≤ n → shareP c d n → ∃ n', 0 ≤ n' ∧ n' < N ∧ shareP c d n'
  | 0, n, h, h0, z => ⟨n, h0, by omega, z⟩
  | k + 1, n, h, h0, z => by
    by_cases hn : n < N
    · exact ⟨n, h0, hn, z⟩
    · have pos := bothP_pos hc hd
      have t1 := thr_nn hc
      have : 0 ≤ lastT c d := by unfold lastT; omega
      refine share_low hc hd hN k (n - bothP c d) (by omega) (by omega) (share_back hc hd (by omega) ?_)
      rw [show n - bothP c d + bothP c d = n by omega]
      exact z
theorem apart_all {c d : List Sl} (hc : okC c) (hd : okC d) {N : Int} (hN : 2 * lastT c d + 2 * bothP c d ≤ N) (h : ∀ n, 0 ≤ n → n < N → ¬ shareP c d n) {n : Int} (hn : 0 ≤ n) : ¬ shareP c d n := fun z => by
  obtain ⟨n', h1, h2, z'⟩ := share_low hc hd hN (n + 1 - N).toNat n (by omega) hn z
  exact h n' h1 h2 z'
end Sm

/-! chains that share no place, chains that take each place once: plain Lean -/
namespace Sc
open PySem PySem.Spec PyProof.Rows L2 Sm
theorem disj_iff {c d : List Sl} {n : Int} : disjB c d n = true ↔ ¬ shareP c d n := by
  unfold disjB shareP
  rw [List.all_eq_true]
  constructor
  · rintro h ⟨v, h1, h2⟩
    have := h v (plc_on.mpr h1)
    rw [Bool.not_eq_true', decide_eq_false_iff_not] at this
    exact this (plc_on.mpr h2)
  · intro h v hv
    rw [Bool.not_eq_true', decide_eq_false_iff_not]
    exact fun hw => h ⟨v, plc_on.mp hv, plc_on.mp hw⟩
theorem apart_iff {c d : List Sl} {N : Nat} : apartB c d N = true ↔ ∀ n : Nat, n < N → ¬ shareP c d (n : Int) := by
  unfold apartB
  rw [List.all_eq_true]
  exact ⟨fun h n hn => disj_iff.mp (h n (List.mem_range.mpr hn)), fun h n hn => disj_iff.mpr (h n (List.mem_range.mp hn))⟩
theorem apart_mono {c d : List Sl} {N M : Nat} (h : apartB c d N = true) (hM : M ≤ N) : apartB c d M = true := apart_iff.mpr fun n hn => apart_iff.mp h n (by omega)
/-- what holds below the bound holds everywhere -/
theorem apart_every {c d : List Sl} (hc : okC c) (hd : okC d) {N : Nat} (hN : 2 * lastT c d + 2 * bothP c d ≤ (N : Int)) (h : apartB c d N = true) (M : Nat) : apartB c d M = true := apart_iff.mpr fun n _ =>
  apart_all hc hd hN (fun m h0 h1 z => by
    obtain ⟨k, rfl⟩ : ∃ k : Nat, m = k := ⟨m.toNat, by omega⟩
    exact apart_iff.mp h k (by omega) z) (by omega)
theorem share_comm {c d : List Sl} {n : Int} (h : shareP c d n) : shareP d c n := by
  obtain ⟨v, h1, h2⟩ := h
  exact ⟨v, h2, h1⟩
/-! ### partitions -/
def cntL (cs : List (List Sl)) (n : Int) : Int := (cs.map fun c => (shown c n).2.2).sum
def maxL : List Int → Int → Int
  | [], m => m
  | t :: l, m => maxL l (max m t)
def lcmL (l : List Int) (m : Int) : Int := l.foldl lcmI m
def boundL (ts ps : List Int) : Int := 2 * maxL ts 0 + 3 * lcmL ps 1
def pN (cs : List (List Sl)) : Int := boundL (cs.map thr) (cs.map per)
def partAt (cs : List (List Sl)) (n : Int) : Prop := cntL cs n = n ∧ cs.Pairwise fun d c => ¬ shareP c d n
def partB (cs : List (List Sl)) : Bool := ((List.range (pN cs).toNat).all fun n => decide (cntL cs (n : Int) = (n : Int))) && (List.range cs.length).all fun i => (cs.take i).all fun d => apartB (cs.getD i []) d (pN cs).toNat
theorem pairs_iff {R : List Sl → List Sl → Prop} {cs : List (List Sl)} : (∀ i, i < cs.length → ∀ d, d ∈ cs.take i → R (cs.getD i []) d) ↔ cs.Pairwise fun d c => R c d := by
  rw [List.pairwise_iff_getElem]
  constructor
  · intro h i j hi hj hij
    have := h j hj cs[i] (List.mem_take_iff_getElem.mpr ⟨i, by omega, rfl⟩)
    rwa [List.getD_eq_getElem?_getD, List.getElem?_eq_getElem hj] at this
  · intro h i hi d hd
    obtain ⟨j, hj, rfl⟩ := List.mem_take_iff_getElem.mp hd
    rw [List.getD_eq_getElem?_getD, List.getElem?_eq_getElem hi]
    exact h j i (by omega) hi (by omega)
theorem part_iff {cs : List (List Sl)} : partB cs = true ↔ ∀ n : Nat, n < (pN cs).toNat → partAt cs (n : Int) := by
  unfold partB partAt
  rw [Bool.and_eq_true, List.all_eq_true, List.all_eq_true]
  constructor
  · rintro ⟨h1, h2⟩ n hn
    refine ⟨of_decide_eq_true (h1 n (List.mem_range.mpr hn)), ?_⟩
    rw [← pairs_iff (R := fun c d => ¬ shareP c d (n : Int))]
    exact fun i hi d hd => apart_iff.mp (List.all_eq_true.mp (h2 i (List.mem_range.mpr hi)) d hd) n hn
  · intro h
    refine ⟨fun n hn => decide_eq_true (h n (List.mem_range.mp hn)).1, fun i hi => List.all_eq_true.mpr fun d hd => apart_iff.mpr fun n hn => ?_⟩
    have z := (h n hn).2
    rw [← pairs_iff (R := fun c d => ¬ shareP c d (n : Int))] at z
    exact z i (List.mem_range.mp hi) d hd
theorem lcmI_nn (a b : Int) : 0 ≤ lcmI a b := Int.natCast_nonneg _
theorem lcmL_pos : ∀ (l : List Int) (m : Int), 0 < m → (∀ t, t ∈ l → 0 < t) → 0 < lcmL l m
  | [], m, h, _ => h
  | t :: l, m, h, hl => lcmL_pos l (lcmI m t) (lcm_pos h (hl t List.mem_cons_self)) fun u hu => hl u (List.mem_cons_of_mem _ hu)
theorem lcmL_base : ∀ (l : List Int) (m : Int), m ∣ lcmL l m
  | [], m => Int.dvd_refl m
  | t :: l, m => Int.dvd_trans dvd_lcm.1 (lcmL_base l (lcmI m t))
theorem lcmL_dvd : ∀ (l : List Int) (m t : Int), t ∈ l → t ∣ lcmL l m
  | t :: l, m, u, h => by
    rcases List.mem_cons.mp h with rfl | h
    · exact Int.dvd_trans dvd_lcm.2 (lcmL_base l (lcmI m u))
    · exact lcmL_dvd l (lcmI m t) u h
theorem maxL_base : ∀ (l : List Int) (m : Int), m ≤ maxL l m
  | [], m => Int.le_refl m
  | t :: l, m => by have := maxL_base l (max m t); show m ≤ maxL l (max m t); omega
theorem maxL_ge : ∀ (l : List Int) (m t : Int), t ∈ l → t ≤ maxL l m
  | t :: l, m, u, h => by
    rcases List.mem_cons.mp h with rfl | h
    · have := maxL_base l (max m u); show u ≤ maxL l (max m u); omega
    · exact maxL_ge l (max m t) u h
theorem maxL_le : ∀ (l : List Int) (m b : Int), m ≤ b → (∀ t, t ∈ l → t ≤ b) → maxL l m ≤ b
  | [], m, b, h, _ => h
  | t :: l, m, b, h, hl => maxL_le l (max m t) b (by have := hl t List.mem_cons_self; omega) fun u hu => hl u (List.mem_cons_of_mem _ hu)
theorem maxL_in : ∀ (l : List Int) (m : Int), maxL l m = m ∨ maxL l m ∈ l
  | [], m => .inl rfl
  | t :: l, m => by
    show maxL l (max m t) = m ∨ maxL l (max m t) ∈ t :: l
    rcases maxL_in l (max m t) with h | h
    · by_cases e : m ≤ t
      · right
        rw [h, show max m t = t by omega]
        exact List.mem_cons_self
      · left
        omega
    · exact .inr (List.mem_cons_of_mem _ h)
/-- the one that max gives -/
theorem max_uniq {ts : List Int} {m : Int} (h0 : ∀ t, t ∈ ts → 0 ≤ t) (hm : m ∈ ts) (hle : ∀ y, y ∈ ts → y ≤ m) : m = maxL ts 0 := by
  have h1 := maxL_ge ts 0 m hm
  have h2 := maxL_le ts 0 m (h0 m hm) hle
  omega
section
variable {cs : List (List Sl)} (ok : ∀ c, c ∈ cs → okC c)
include ok
theorem perL_pos : 0 < lcmL (cs.map per) 1 := lcmL_pos _ 1 (by decide) fun t ht => by
  obtain ⟨c, hc, rfl⟩ := List.mem_map.mp ht
  exact per_pos (ok c hc)
theorem thrL_le {c : List Sl} (hc : c ∈ cs) : thr c ≤ maxL (cs.map thr) 0 := maxL_ge _ _ _ (List.mem_map.mpr ⟨c, hc, rfl⟩)
theorem cnt_lin {T : Int} : ∀ (ds : List (List Sl)), (∀ c, c ∈ ds → c ∈ cs) → ∀ n : Int, maxL (cs.map thr) 0 ≤ n → ∃ q B : Int, ∀ k : Int, 0 ≤ k → cntL ds (n + k * lcmL (cs.map per) 1) = q + k * B
  | [], _, n, _ => ⟨0, 0, fun k _ => by simp [cntL]⟩
  | c :: ds, h, n, hn => by
    have hc := h c List.mem_cons_self
    obtain ⟨q, B, z⟩ := cnt_lin (T := T) ds (fun d hd => h d (List.mem_cons_of_mem _ hd)) n hn
    obtain ⟨x, hx⟩ := lcmL_dvd (cs.map per) 1 (per c) (List.mem_map.mpr ⟨c, hc, rfl⟩)
    have p0 := per_pos (ok c hc)
    have p1 := perL_pos ok
    have x0 : 0 ≤ x := by
      have : per c * 0 ≤ per c * x := by omega
      exact Int.le_of_mul_le_mul_left this p0
    have l := (lin_shown (ok c hc)).mult x0
    rw [Int.mul_comm x, ← hx] at l
    obtain ⟨f, s, q', A, B', _, _, z'⟩ := l n (Int.le_trans (thrL_le ok hc) hn)
    refine ⟨q' + q, B' + B, fun k hk => ?_⟩
    show (shown c (n + k * lcmL (cs.map per) 1)).2.2 + cntL ds (n + k * lcmL (cs.map per) 1) = _
    rw [z k hk, z' k hk, Int.mul_add]
    show q' + k * B' + _ = _
    omega
theorem part_every (h : partB cs = true) (n : Nat) : partAt cs (n : Int) := by
  have hP := perL_pos ok
  have hT := maxL_base (cs.map thr) 0
  have low := part_iff.mp h
  have eN : pN cs = 2 * maxL (cs.map thr) 0 + 3 * lcmL (cs.map per) 1 := rfl
  constructor
  · by_cases hn : n < (pN cs).toNat
    · exact (low n hn).1
    · obtain ⟨P, eP⟩ : ∃ P, P = lcmL (cs.map per) 1 := ⟨_, rfl⟩
      obtain ⟨T, eT⟩ : ∃ T, T = maxL (cs.map thr) 0 := ⟨_, rfl⟩
      have hm := Int.emod_nonneg ((n : Int) - T) (b := P) (by omega)
      have hm2 := Int.emod_lt_of_pos ((n : Int) - T) (b := P) (by omega)
      have hd2 := Int.emod_add_mul_ediv ((n : Int) - T) P
      have hk : 0 ≤ ((n : Int) - T) / P := Int.ediv_nonneg (by omega) (by omega)
      obtain ⟨k, ek⟩ : ∃ k, k = ((n : Int) - T) / P := ⟨_, rfl⟩
      obtain ⟨r, er⟩ : ∃ r, r = T + ((n : Int) - T) % P := ⟨_, rfl⟩
      rw [← ek] at hd2 hk
      obtain ⟨q, B, z⟩ := cnt_lin (T := T) ok cs (fun _ h => h) r (by omega)
      rw [← eP] at z
      have z0 := z 0 (by decide)
      have z1 := z 1 (by decide)
      have zk := z k hk
      rw [Int.zero_mul, Int.add_zero, Int.zero_mul, Int.add_zero] at z0
      rw [Int.one_mul, Int.one_mul] at z1
      obtain ⟨r', er'⟩ : ∃ r' : Nat, r = r' := ⟨r.toNat, by omega⟩
      obtain ⟨p', ep'⟩ : ∃ p' : Nat, r + P = p' := ⟨(r + P).toNat, by omega⟩
      have w0 := (low r' (by omega)).1
      have w1 := (low p' (by omega)).1
      rw [← er'] at w0
      rw [← ep'] at w1
      have eB : B = P := by omega
      have en : r + k * P = n := by rw [Int.mul_comm k P]; omega
      rw [en] at zk
      rw [zk, eB]
      omega
  · have pw : ∀ m : Nat, m < (pN cs).toNat → cs.Pairwise fun d c => ¬ shareP c d (m : Int) := fun m hm => (low m hm).2
    rw [List.pairwise_iff_getElem]
    intro i j hi hj hij
    have oi := ok _ (List.getElem_mem hi)
    have oj := ok _ (List.getElem_mem hj)
    refine apart_all oj oi (N := pN cs) ?_ (fun m h0 h1 => ?_) (by omega)
    · have t1 := thrL_le ok (List.getElem_mem hi)
      have t2 := thrL_le ok (List.getElem_mem hj)
      have d1 : bothP cs[j] cs[i] ∣ lcmL (cs.map per) 1 := lcm_dvd (lcmL_dvd _ _ _ (List.mem_map.mpr ⟨_, List.getElem_mem hj, rfl⟩)) (lcmL_dvd _ _ _ (List.mem_map.mpr ⟨_, List.getElem_mem hi, rfl⟩))
      have d2 := Int.le_of_dvd hP d1
      unfold lastT
      omega
    · obtain ⟨k, rfl⟩ : ∃ k : Nat, m = k := ⟨m.toNat, by omega⟩
      exact (List.pairwise_iff_getElem.mp (pw k (by omega))) i j hi hj hij
/-- the answer by any bound that is large enough -/
theorem part_by {M : Nat} (hM : pN cs ≤ (M : Int)) : partB cs = true ↔ ∀ n : Nat, n < M → partAt cs (n : Int) := ⟨fun h n _ => part_every ok h n, fun h => part_iff.mpr fun n hn => h n (by omega)⟩
end
/-! ### the places in a row, sorted -/
def allP (cs : List (List Sl)) (n : Int) : List Int := cs.flatMap fun c => plc (shown c n)
theorem strict_len : ∀ {l : List Int} {lo hi : Int}, l.Pairwise (· < ·) → (∀ v, v ∈ l → lo ≤ v ∧ v < hi) → lo ≤ hi → (l.length : Int) ≤ hi - lo
  | [], lo, hi, _, _, h => by simp; omega
  | a :: l, lo, hi, hs, hb, h => by
    obtain ⟨h1, h2⟩ := List.pairwise_cons.mp hs
    have ha := hb a List.mem_cons_self
    have := strict_len (lo := a + 1) (hi := hi) h2 (fun v hv => ⟨by have := h1 v hv; omega, (hb v (List.mem_cons_of_mem _ hv)).2⟩) (by omega)
    rw [List.length_cons]
    omega
theorem strict_range : ∀ {l : List Int} {a : Nat}, l.Pairwise (· < ·) → (∀ v, v ∈ l → (a : Int) ≤ v ∧ v < (a : Int) + l.length) → l = (List.range' a l.length).map fun (i : Nat) => (i : Int)
  | [], a, _, _ => rfl
  | x :: l, a, hs, hb => by
    obtain ⟨h1, h2⟩ := List.pairwise_cons.mp hs
    have hx := hb x List.mem_cons_self
    have z := strict_len (lo := x + 1) (hi := (a : Int) + (x :: l).length) h2 (fun v hv => ⟨by have := h1 v hv; omega, (hb v (List.mem_cons_of_mem _ hv)).2⟩) (by omega)
    rw [List.length_cons] at z hx
    have e : x = a := by omega
    subst e
    rw [List.length_cons, List.range'_succ, List.map_cons]
    congr 1
    refine strict_range h2 fun v hv => ?_
    have y1 := h1 v hv
    have y2 := (hb v (List.mem_cons_of_mem _ hv)).2
    rw [List.length_cons] at y2
    omega
theorem allP_len {cs : List (List Sl)} (ok : ∀ c, c ∈ cs → okC c) {n : Int} (hn : 0 ≤ n) : ((allP cs n).length : Int) = cntL cs n := by
  induction cs with
  | nil => rfl
  | cons c cs ih =>
    have := ih fun d hd => ok d (List.mem_cons_of_mem _ hd)
    have z := shown_in (ok c List.mem_cons_self) hn
    unfold allP cntL at this ⊢
    rw [List.flatMap_cons, List.map_cons, List.sum_cons, List.length_append, plc_len]
    omega
theorem allP_nodup {cs : List (List Sl)} (ok : ∀ c, c ∈ cs → okC c) {n : Int} : (allP cs n).Nodup ↔ cs.Pairwise fun d c => ¬ shareP c d n := by
  unfold allP List.Nodup
  rw [List.pairwise_flatMap]
  constructor
  · rintro ⟨_, h⟩
    refine h.imp fun {d c} z => ?_
    rintro ⟨v, h1, h2⟩
    exact z v (plc_on.mpr h2) v (plc_on.mpr h1) rfl
  · intro h
    refine ⟨fun c hc => plc_nodup (shown_step (ok c hc) n).1, h.imp fun {d c} z v hv w hw e => ?_⟩
    subst e
    exact z ⟨v, plc_on.mp hw, plc_on.mp hv⟩
theorem sorted_part {cs : List (List Sl)} (ok : ∀ c, c ∈ cs → okC c) {n : Nat} {ms : List Int} (hp : ms.Perm (allP cs (n : Int))) (hs : ms.Pairwise (· ≤ ·)) : ms = (List.range n).map (fun (i : Nat) => (i : Int)) ↔ partAt cs (n : Int) := by
  have len := allP_len ok (n := (n : Int)) (by omega)
  constructor
  · intro e
    refine ⟨?_, (allP_nodup ok).mp (hp.nodup_iff.mp ?_)⟩
    · rw [← len, ← hp.length_eq, e, List.length_map, List.length_range]
    · rw [e]
      unfold List.Nodup
      rw [List.pairwise_map]
      exact List.pairwise_lt_range.imp fun {a b} h e => by omega
  · rintro ⟨h1, h2⟩
    have st := strict_of hp hs ((allP_nodup ok).mpr h2)
    have hl : ms.length = n := by rw [hp.length_eq]; omega
    have := strict_range (l := ms) (a := 0) st fun v hv => by
      have hv := hp.mem_iff.mp hv
      unfold allP at hv
      obtain ⟨c, hc, hv⟩ := List.mem_flatMap.mp hv
      rw [plc_on] at hv
      obtain ⟨k, k0, k1, e⟩ := hv
      have := shown_place c (n : Int) k (ok c hc).2 (by omega) k0 k1
      rw [hl]
      have e2 : (shown c (n : Int)).1 + (shown c (n : Int)).2.1 * k = v := e
      have : 0 ≤ (shown c (n : Int)).1 + (shown c (n : Int)).2.1 * k ∧ (shown c (n : Int)).1 + (shown c (n : Int)).2.1 * k < n := this
      omega
    rw [this, hl, ← List.range_eq_range']
end Sc

namespace Sc
open PySem PySem.Spec PyProof.Rows L2 Sm
local macro_rules | `(tactic| walk_at "wp") => `(tactic| simp only [dRevT, dRevL, dEnumT, qRepA, qRepL, qCatL, qIn, qNotIn, dListR1, dListR2, dRet, dSeq, dIfS, dNext, dDrop, dSet, dAsg, dPar, dPar3, dAug, dVar, dC, dOp, dUn, dTest, dTru, dNot, dAnd, dOr, dAndV, dOrV, dNotV, dIf, dChain, dCall, dCons, dNil, dCB, dTup, dLst, dIsi, dStore, kSub, dYes, dFor, dIt, dItL, dRng1, dRng2, dSl, dNoP, dPart, dMt, dRaise,
  qI, qI0, qAdd, qSub, qMul, qFdiv, qFdivN, qMod, qPow, qLt, qLe, qGt, qGe, qEq, qNe, qIsN, qNotN, qIsB, qNotB, qNeg, qAbs, qMax2, qMin2, qLen, qIx, qTupOf, qLstOf, qSlT, qSlL, qCatT, qRepT, kName, kTup, kCons, kNil, start2, List.map_cons, List.map_nil, List.length_cons, List.length_nil, List.replicate, List.cons_append, List.nil_append, List.append_nil,
  List.getElem?_cons_zero, List.getElem?_cons_succ, List.set_cons_zero, List.set_cons_succ, Option.some.injEq, exists_eq_left', exists_eq_left, Dt.int.injEq, Dt.bl.injEq, Dt.ref.injEq, Dt.tup.injEq, Dt.lst.injEq, Nat.sub_zero, Nat.zero_add, Nat.reduceAdd, Nat.reduceSub, asQ_tup, asQ_lst, asL_lst, asT_tup, asQ_put, asL_put, exists_and_left, List.cons.injEq, and_true, isN_int, isN_non, truD_int, truD_non, at_0, at_1, at_2, ix20, ix21, Cells.put_same, Cells.put_put, Cell.lst.injEq, sEq_ii, sEq_bb, sEq_ss, sEq_nn, sEq_ni, sEq_in, true_and, decide_eq_true_eq, and_assoc])


def sp__law_places : Sp2 := lsp (α := List Sl × Int) (fun a => [dCh a.1, .int a.2]) (fun a => okC a.1 ∧ 0 ≤ a.2 ∧ a.2 ≤ 1000) (fun a => (plc (shown a.1 a.2)).map Dt.int)
def T__law_places : TS2 :=
  (dSeq (dAsg (dCall sp__law_shown (dCons (dVar 0) (dCons (dVar 1) dNil))) (kTup 3 (kCons (kName 2) (kCons (kName 3) (kCons (kName 4) kNil)))))
  (dRet (dLc (dRng1 (dVar 4)) (kName 5) dYes (dOp qAdd (dVar 2) (dOp qMul (dOrT (dVar 3) (dC (.int 0))) (dVar 5))))))
theorem pure__law_places : Pure 6 sp__law_places T__law_places := by
  rintro ds S Q E frg ⟨⟨c, n⟩, rfl, ⟨hc, h0, h1⟩, q⟩
  have hc : okC c := hc
  have h0 : 0 ≤ n := h0
  have h1 : n ≤ 1000 := h1
  have z := shown_in hc h0
  unfold T__law_places
  walk_at "wp"
  refine ⟨(c, n), rfl, ⟨hc.2, h0, by show n ≤ 10 ^ 18; omega⟩, ?_⟩
  dsimp only
  rw [dCl_clean]
  unfold dLc
  walk_at "wp"
  refine ⟨by omega, by omega, ?_⟩
  refine comp_mapI (fun k => .int ((shown c n).1 + (shown c n).2.1 * k)) (by omega) (fun k hk S R r => ?_) ?_
  · walk_at "wp"
    have c0 : (clean c n).1 = some (shown c n).1 := if_pos (by omega)
    rw [c0]
    refine or0 (o := (clean c n).2.1) rfl ⟨_, rfl, ?_⟩
    rw [Int.zero_add]
    by_cases h : (shown c n).2.2 > 1
    · have c1 : (clean c n).2.1 = some (shown c n).2.1 := if_pos h
      rw [c1]
      have st := shown_step hc n
      exact ⟨.inl ⟨by show -(2 ^ 64) < (shown c n).2.1; omega, by show (shown c n).2.1 < 2 ^ 64; omega⟩, _, rfl, r⟩
    · have c1 : (clean c n).2.1 = none := if_neg h
      have k0 : k = 0 := by omega
      subst k0
      rw [c1]
      refine ⟨.inl ⟨by decide, by decide⟩, _, rfl, ?_⟩
      simpa using r
  · have q : newL ((plc (shown c n)).map Dt.int) S Q := q
    unfold plc at q
    rw [List.map_map] at q
    exact q
def sp__law_apart : Sp2 := psp (α := List Sl × List Sl × Int) (fun a => [dCh a.1, dCh a.2.1, .int a.2.2]) (fun a => okC a.1 ∧ okC a.2.1 ∧ 0 ≤ a.2.2 ∧ a.2.2 ≤ 1000) (fun a => .bl (apartB a.1 a.2.1 a.2.2.toNat))
def T__law_apart : TS2 :=
  (dSeq (dFor (dRng1 (dVar 2)) (kName 3) (dSeq (dSet 4 (dCall sp__law_places (dCons (dVar 1) (dCons (dVar 3) dNil))))
  (dIfS (dTest (dOp qNeD (dLc (dItL (dCall sp__law_places (dCons (dVar 0) (dCons (dVar 3) dNil)))) (kName 5) (dTest (dOp qIn (dVar 5) (dVar 4))) (dVar 5)) (dLst dNil))) (dRet (dC (.bl false))) dNext)))
  (dRet (dC (.bl true))))
theorem pure__law_apart : Pure 6 sp__law_apart T__law_apart := by
  rintro ds S Q E frg ⟨⟨c, d, M⟩, rfl, ⟨hc, hd, h0, h1⟩, q⟩
  have hc : okC c := hc
  have hd : okC d := hd
  have h0 : 0 ≤ M := h0
  have h1 : M ≤ 1000 := h1
  have q : Q (.bl (apartB c d M.toNat)) S := q
  unfold T__law_apart
  walk_at "wp"
  refine ⟨by omega, by omega, ?_⟩
  refine loop_rng (fun i ds S' => S' = S ∧ (∀ j : Nat, j < i → disjB c d (j : Int) = true) ∧ ∃ x3 x4 x5, ds = [some (dCh c), some (dCh d), some (.int M), x3, x4, x5]) ⟨rfl, fun j hj => absurd hj (Nat.not_lt_zero _), _, _, _, rfl⟩ ?_ ?_
  · rintro i ds S' N hi ⟨rfl, hj, _, _, _, rfl⟩ hN
    walk_at "wp"
    rw [Int.zero_add]
    refine ⟨(d, (i : Int)), rfl, ⟨hd, by show 0 ≤ (i : Int); omega, by show (i : Int) ≤ 1000; omega⟩, .inl ?_⟩
    unfold dLc
    walk_at "wp"
    refine ⟨(c, (i : Int)), rfl, ⟨hc, by show 0 ≤ (i : Int); omega, by show (i : Int) ≤ 1000; omega⟩, .inl ⟨_, rfl, ?_⟩⟩
    have z := shown_in hc (n := (i : Int)) (by omega)
    refine comp_filE Dt.int (fun v => decide (v ∈ plc (shown d (i : Int)))) Dt.int (by show (plc (shown c (i : Int))).length < 100000; rw [plc_len]; omega) (fun v hv S R1 R2 y n2 => ?_) (.inl ?_)
    · walk_at "wp"
      refine ⟨rfl, by rw [List.all_map]; exact List.all_eq_true.mpr fun _ _ => rfl, ?_⟩
      rw [isIn_int]
      exact ite2 (fun k => y k) (fun k => n2 (Bool.eq_false_iff.mpr k))
    have e : decide (List.filter (fun v => decide (v ∈ plc (shown d (i : Int)))) (plc (shown c (i : Int))) = []) = disjB c d (i : Int) := by
      rw [Bool.eq_iff_iff, decide_eq_true_iff, List.filter_eq_nil_iff]
      unfold disjB
      rw [List.all_eq_true]
      refine forall_congr' fun v => forall_congr' fun hv => ?_
      by_cases k : v ∈ plc (shown d (i : Int)) <;> simp [k]
    refine ⟨by decide, .inl ⟨_, deq_ints (m := []), ?_⟩⟩
    rw [e]
    refine ⟨_, rfl, ite2 (fun k => ?_) (fun k => hN _ _ ⟨rfl, fun j h => ?_, _, _, _, rfl⟩)⟩
    · have f : apartB c d M.toNat = false := Bool.eq_false_iff.mpr fun t => by
        have := List.all_eq_true.mp t i (List.mem_range.mpr hi)
        rw [this] at k
        exact absurd k (by decide)
      rw [f] at q
      exact q
    · by_cases e : j = i
      · subst e
        simpa using k
      · exact hj j (by omega)
  · rintro ds S' ⟨rfl, hj, _, _, _, rfl⟩
    walk_at "wp"
    have f : apartB c d M.toNat = true := List.all_eq_true.mpr fun j h => hj j (List.mem_range.mp h)
    rw [f] at q
    exact q
/-- a store with new lists that are told no more -/
structure Gr (S S' : Cells) : Prop where
  use : ∀ (Q : QE) (d : Dt), Fg Q → Q d S → Q d S'
theorem Gr.base (S : Cells) : Gr S S := ⟨fun _ _ _ q => q⟩
theorem Gr.fresh {S S' : Cells} {p : Addr} {c : Cell} (h : Gr S S') (hp : S' p = none) : Gr S (S'.put p c) := ⟨fun Q d f q => f _ _ _ _ hp (h.use Q d f q)⟩
def sp__law_shares : Sp2 := rsp (α := List (List Sl) × Int) (β := Bool) (fun a => [dChs a.1, .int a.2]) (fun a => (∀ c, c ∈ a.1 → okC c) ∧ a.1.length ≤ 3 ∧ 0 ≤ a.2 ∧ a.2 ≤ 1000) (fun a b => b = true ↔ ∀ n : Nat, n < a.2.toNat → partAt a.1 (n : Int)) Dt.bl
def T__law_shares : TS2 :=
  (dSeq (dFor (dRng1 (dVar 1)) (kName 2) (dSeq (dSet 3 (dLst dNil))
  (dSeq (dFor (dIt (dVar 0)) (kName 4) (dSet 3 (dOp qCatL (dVar 3) (dCall sp__law_places (dCons (dVar 4) (dCons (dVar 2) dNil))))))
  (dIfS (dTest (dOp qNeD (dCB qSortI (dCons (dVar 3) dNil)) (dListR1 (dVar 2)))) (dRet (dC (.bl false))) dNext))))
  (dRet (dC (.bl true))))
theorem pure__law_shares : Pure 5 sp__law_shares T__law_shares := by
  rintro ds S Q E frg ⟨⟨cs, M⟩, rfl, ⟨ok, hl, h0, h1⟩, q⟩
  have ok : ∀ c, c ∈ cs → okC c := ok
  have hl : cs.length ≤ 3 := hl
  have h0 : 0 ≤ M := h0
  have h1 : M ≤ 1000 := h1
  have q : ∀ b : Bool, (b = true ↔ ∀ n : Nat, n < M.toNat → partAt cs (n : Int)) → Q (.bl b) S := q
  unfold T__law_shares
  walk_at "wp"
  refine ⟨by omega, by omega, ?_⟩
  refine loop_rng (fun i ds S' => Gr S S' ∧ (∀ j : Nat, j < i → partAt cs (j : Int)) ∧ ∃ x2 x3 x4, ds = [some (dChs cs), some (.int M), x2, x3, x4]) ⟨.base S, fun j hj => absurd hj (Nat.not_lt_zero _), _, _, _, rfl⟩ ?_ ?_
  · rintro i ds S' N hi ⟨gr, hj, _, _, _, rfl⟩ hN
    walk_at "wp"
    rw [Int.zero_add]
    refine ⟨by decide, .inr fun p hp => ?_⟩
    unfold dChs
    walk_at "wp"
    refine loop_rest dCh (fun r ds S2 => Gr S S2 ∧ ∃ done, done ++ r = cs ∧ ∃ a x4, S2 a = some (.lst ((allP done (i : Int)).map Dt.int)) ∧ ds = [some (.tup (cs.map dCh)), some (.int M), some (.int (i : Int)), some (.ref a), x4]) ?_ ?_ cs _ _ ⟨gr.fresh hp, [], rfl, p, _, Cells.put_same, rfl⟩
    · rintro c r ds S2 N2 ⟨g2, done, hd, a, _, ha, rfl⟩ hN2
      have okd : ∀ d, d ∈ done → okC d := fun d h => ok d (by rw [← hd]; exact List.mem_append_left _ h)
      have okc : okC c := ok c (by rw [← hd]; exact List.mem_append_right _ List.mem_cons_self)
      have ll := congrArg List.length hd
      rw [List.length_append, List.length_cons] at ll
      walk_at "wp"
      refine ⟨(c, (i : Int)), rfl, ⟨okc, by show 0 ≤ (i : Int); omega, by show (i : Int) ≤ 1000; omega⟩, .inr fun b hb => ?_⟩
      dsimp only
      refine ⟨b, rfl, _, by rw [Cells.put_ne (Cells.ne_new ha hb)]; exact ha, _, Cells.put_same, ?_, .inr fun e he => ?_⟩
      · have z := shown_in okc (n := (i : Int)) (by omega)
        have y := allP_len okd (n := (i : Int)) (by omega)
        have w : cntL done (i : Int) ≤ 3000 := by
          have g : ∀ l : List (List Sl), (∀ d, d ∈ l → okC d) → cntL l (i : Int) ≤ 1000 * l.length := fun l => by
            induction l with
            | nil => exact fun _ => by show (0 : Int) ≤ 1000 * ((0 : Nat) : Int); omega
            | cons d l ih =>
              intro h
              have := ih fun e he => h e (List.mem_cons_of_mem _ he)
              have z := shown_in (h d List.mem_cons_self) (n := (i : Int)) (by omega)
              show (shown d (i : Int)).2.2 + cntL l (i : Int) ≤ 1000 * ((l.length + 1 : Nat) : Int)
              omega
          have := g done okd
          omega
        rw [List.length_map, List.length_map, plc_len]
        omega
      · refine hN2 _ _ ⟨(g2.fresh hb).fresh he, done ++ [c], by rw [List.append_assoc]; exact hd, e, _, ?_, rfl⟩
        rw [Cells.put_same, ← List.map_append]
        unfold allP
        rw [List.flatMap_append, List.flatMap_singleton]
    · rintro ds S2 ⟨g2, done, hd, a, _, ha, rfl⟩
      rw [List.append_nil] at hd
      subst hd
      walk_at "wp"
      refine ⟨_, _, rfl, asL_ref ha, fun ms hp hs => .inl ⟨by omega, by omega, .inl ?_⟩⟩
      have e : rng 0 ((i : Int)).toNat = ((List.range i).map fun (k : Nat) => (k : Int)).map Dt.int := by
        unfold rng
        rw [List.map_map, Int.toNat_natCast]
        exact List.map_congr_left fun k _ => by show Dt.int (0 + (k : Int)) = Dt.int (k : Int); rw [Int.zero_add]
      rw [e]
      refine ⟨_, deq_ints, ?_⟩
      have sp := sorted_part ok hp hs
      refine ⟨_, rfl, ite2 (fun k => ?_) (fun k => hN _ _ ⟨g2, fun j h => ?_, _, _, _, rfl⟩)⟩
      · refine g2.use Q _ frg.fg (q false ⟨fun z => absurd z (by decide), fun z => ?_⟩)
        have := sp.mpr (z i hi)
        rw [decide_eq_true this] at k
        exact absurd k (by decide)
      · by_cases e : j = i
        · subst e
          refine sp.mp ?_
          simpa using k
        · exact hj j (by omega)
  · rintro ds S' ⟨gr, hj, _, _, _, rfl⟩
    walk_at "wp"
    exact gr.use Q _ frg.fg (q true ⟨fun _ => hj, fun _ => rfl⟩)
/-! ### the drawn partitions -/
def knownsOf (u : Int) : List (List (List Sl)) := [[[(none, some u, 1)], [(some u, none, 1)]], [[(some 0, none, 3)], [(some 1, none, 3)], [(some 2, none, 3)]], [[(none, none, 2)], [(some 1, none, 2)]],
  [[(none, some u, 1)], [(some u, none, 1), (none, none, 2)], [(some u, none, 1), (some 1, none, 2)]], [[(some 1, none, 2)], [(none, none, 2)]], [[]], [[(some 2, none, 3)], [(some 1, none, 3)], [(some 0, none, 3)]]]
def knowns : List (List (List Sl)) := [1, 2, 5, -1, -3].flatMap knownsOf
def litB (c : List Sl) : Bool := decide (c.length ≤ 4) && c.all (fun s => decide ((s.1.getD 0).natAbs ≤ 30) && decide ((s.2.1.getD 0).natAbs ≤ 30) && decide (-3 ≤ s.2.2) && decide (s.2.2 ≤ 3) && decide (s.2.2 ≠ 0))
def periods : List Int := [1, 2, 3, 4, 6, 9]
def knownB (cs : List (List Sl)) : Bool := cs.all litB && (cs.all (fun c => decide (thr c ≤ 28)) && (decide (1 ≤ cs.length) && (decide (cs.length ≤ 3) && (partB cs && ((match cs with
  | a :: b :: _ => apartB a b (bnd a b + lastT a b).toNat
  | _ => true) && (List.range 3).all fun i => periods.all fun p => decide (i < cs.length → lcmL ((cs.map per).take i ++ [p] ++ (cs.map per).drop (i + 1)) 1 ≤ 18))))))
theorem knowns_ok : knowns.all knownB = true := by decide +kernel
theorem known_facts {cs : List (List Sl)} (h : cs ∈ knowns) : (∀ c, c ∈ cs → okC c) ∧ (∀ c, c ∈ cs → thr c ≤ 28) ∧ 1 ≤ cs.length ∧ cs.length ≤ 3 ∧ partB cs = true ∧ (∀ a b r, cs = a :: b :: r → apartB a b (bnd a b + lastT a b).toNat = true) ∧
    ∀ i p, i < cs.length → p ∈ periods → lcmL ((cs.map per).take i ++ [p] ++ (cs.map per).drop (i + 1)) 1 ≤ 18 := by
  have z := List.all_eq_true.mp knowns_ok cs h
  unfold knownB at z
  simp only [Bool.and_eq_true, decide_eq_true_eq] at z
  obtain ⟨z1, z2, z3, z4, z5, z6, z7⟩ := z
  refine ⟨fun c hc => ?_, fun c hc => of_decide_eq_true (List.all_eq_true.mp z2 c hc), z3, z4, z5, fun a b r e => ?_, fun i p hi hp => ?_⟩
  · have y := List.all_eq_true.mp z1 c hc
    unfold litB at y
    rw [Bool.and_eq_true, decide_eq_true_eq] at y
    exact lit_ok y.1 y.2
  · subst e
    exact z6
  · exact of_decide_eq_true (List.all_eq_true.mp (List.all_eq_true.mp z7 i (List.mem_range.mpr (by omega))) p hp) hi
/-- a drawn chain of at most two slices -/
theorem drawn_per {c : List Sl} (h : chW 2 3 c) : per c ∈ periods ∧ thr c ≤ 28 := by
  obtain ⟨hl, hs⟩ := h
  have b : ∀ o : Option Int, inW 3 o → absB o ≤ 3 := fun o ho => by
    cases o with
    | none => decide
    | some i =>
      have := ho i rfl
      show ((i.natAbs : Nat) : Int) ≤ 3
      omega
  have st : ∀ t : Int, -3 ≤ t → t ≤ 3 → t ≠ 0 → (t.natAbs : Int) = 1 ∨ (t.natAbs : Int) = 2 ∨ (t.natAbs : Int) = 3 := fun t h1 h2 h3 => by omega
  match c, hl, hs with
  | [], _, _ => exact ⟨by decide, by decide⟩
  | [s], _, hs =>
    obtain ⟨h1, h2, h3, h4, h5⟩ := hs s List.mem_cons_self
    have a1 := b _ h1
    have a2 := b _ h2
    refine ⟨?_, ?_⟩
    · show 1 * (s.2.2.natAbs : Int) ∈ periods
      rcases st _ h3 h4 h5 with e | e | e <;> rw [e] <;> decide
    · show 0 + 1 * (1 + absB s.1 + absB s.2.1) ≤ 28
      omega
  | [s, u], _, hs =>
    obtain ⟨h1, h2, h3, h4, h5⟩ := hs s List.mem_cons_self
    obtain ⟨k1, k2, k3, k4, k5⟩ := hs u (List.mem_cons_of_mem _ List.mem_cons_self)
    have a1 := b _ h1
    have a2 := b _ h2
    have b1 := b _ k1
    have b2 := b _ k2
    have b3 := absB_nn u.1
    have b4 := absB_nn u.2.1
    refine ⟨?_, ?_⟩
    · show 1 * (s.2.2.natAbs : Int) * (u.2.2.natAbs : Int) ∈ periods
      rcases st _ h3 h4 h5 with e | e | e <;> rcases st _ k3 k4 k5 with f | f | f <;> rw [e, f] <;> decide
    · show 0 + 1 * (1 + absB s.1 + absB s.2.1) + 1 * (s.2.2.natAbs : Int) * (1 + absB u.1 + absB u.2.1) ≤ 28
      rcases st _ h3 h4 h5 with e | e | e <;> rw [e] <;> omega
  | s :: u :: v :: r, hl, _ =>
    have hl : ((r.length + 1 + 1 + 1 : Nat) : Int) ≤ 2 := hl
    omega
theorem spoiled_le {cs : List (List Sl)} (h : cs ∈ knowns) {c : List Sl} (hc : chW 2 3 c) {i : Nat} (hi : i < cs.length) : pN (cs.take i ++ [c] ++ cs.drop (i + 1)) ≤ 110 := by
  obtain ⟨k1, k2, k3, k4, k5, k6, k7⟩ := known_facts h
  have dp := drawn_per hc
  have e1 := k7 i (per c) hi dp.1
  unfold pN boundL
  have e2 : maxL ((cs.take i ++ [c] ++ cs.drop (i + 1)).map thr) 0 ≤ 28 := maxL_le _ 0 28 (by decide) fun t ht => by
    obtain ⟨d, hd, rfl⟩ := List.mem_map.mp ht
    rcases List.mem_append.mp hd with hd | hd
    · rcases List.mem_append.mp hd with hd | hd
      · exact k2 d (List.mem_of_mem_take hd)
      · rw [List.mem_singleton.mp hd]
        exact dp.2
    · exact k2 d (List.mem_of_mem_drop hd)
  have e3 : (cs.take i ++ [c] ++ cs.drop (i + 1)).map per = (cs.map per).take i ++ [per c] ++ (cs.map per).drop (i + 1) := by
    rw [List.map_append, List.map_append, List.map_take, List.map_drop]
    rfl
  rw [e3]
  omega
def sp__law_known : Sp2 := bsp (α := Unit) (β := List (List Sl)) (fun _ => []) (fun _ => True) (fun _ cs => cs ∈ knowns) dChs
def T__law_known : TS2 :=
  (dSeq (dSet 1 (dCall sp__law_of (dCons (dVar 0) (dCons (dLst (dCons (dC (.int 1)) (dCons (dC (.int 2)) (dCons (dC (.int 5)) (dCons (dUn qNeg (dC (.int 1))) (dCons (dUn qNeg (dC (.int 3))) dNil)))))) dNil))))
  (dSeq (dSet 2 (dTup (dCons (dTup (dCons (dTup (dCons (dC .non) (dCons (dVar 1) (dCons (dC (.int 1)) dNil)))) dNil)) (dCons (dTup (dCons (dTup (dCons (dVar 1) (dCons (dC .non) (dCons (dC (.int 1)) dNil)))) dNil)) dNil))))
  (dSeq (dSet 3 (dCB qTupOf (dCons (dLc (dRng1 (dC (.int 3))) (kName 6) dYes (dTup (dCons (dTup (dCons (dVar 6) (dCons (dC .non) (dCons (dC (.int 3)) dNil)))) dNil))) dNil)))
  (dSeq (dSet 4 (dTup (dCons (dTup (dCons (dTup (dCons (dC .non) (dCons (dC .non) (dCons (dC (.int 2)) dNil)))) dNil)) (dCons (dTup (dCons (dTup (dCons (dC (.int 1)) (dCons (dC .non) (dCons (dC (.int 2)) dNil)))) dNil)) dNil))))
  (dSeq (dSet 5 (dTup (dCons (dTup (dCons (dTup (dCons (dC .non) (dCons (dVar 1) (dCons (dC (.int 1)) dNil)))) dNil)) (dCons (dTup (dCons (dTup (dCons (dVar 1) (dCons (dC .non) (dCons (dC (.int 1)) dNil)))) (dCons (dTup (dCons (dC .non) (dCons (dC .non) (dCons (dC (.int 2)) dNil)))) dNil))) (dCons (dTup (dCons (dTup (dCons (dVar 1) (dCons (dC .non) (dCons (dC (.int 1)) dNil)))) (dCons (dTup (dCons (dC (.int 1)) (dCons (dC .non) (dCons (dC (.int 2)) dNil)))) dNil))) dNil)))))
  (dRet (dCall sp__law_of (dCons (dVar 0) (dCons (dLst (dCons (dVar 2) (dCons (dVar 3) (dCons (dVar 4) (dCons (dVar 5) (dCons (dRevT (dVar 4)) (dCons (dTup (dCons (dTup dNil) dNil)) (dCons (dRevT (dVar 3)) dNil)))))))) dNil)))))))))
theorem pure__law_known : Pure 7 sp__law_known T__law_known := by
  rintro ds S Q E frg ⟨b, _, rfl, hb, _, q⟩
  have q : ∀ cs c s, cs ∈ knowns → Q (dChs cs) (S.put b (.lst [.int c, .int s])) := q
  unfold T__law_known dLc
  walk_at "wp"
  refine ⟨by decide, .inl ⟨b, _, rfl, hb, by decide, fun d c1 s1 hd => ?_⟩⟩
  have hd : d ∈ ([1, 2, 5, -1, -3] : List Int).map Dt.int := hd
  obtain ⟨u, hu, rfl⟩ := List.mem_map.mp hd
  simp only [id]
  refine ⟨by decide, by decide, by decide, by decide, by decide, by decide, by decide, ?_⟩
  refine comp_mapI (n := 3) (fun k => .tup [.tup [.int k, .non, .int 3]]) (by decide) (fun k hk S R r => ?_) (.inl ?_)
  · walk_at "wp"
    rw [Int.zero_add]
    exact ⟨by decide, by decide, r⟩
  refine ⟨_, rfl, by decide, by decide, by decide, by decide, by decide, by decide, by decide, by decide, by decide, by decide, by decide, by decide, by decide, by decide, by decide, by decide, by decide, ?_⟩
  refine .inl ⟨b, _, rfl, Bag.put, ⟨by show 0 < 7; decide, by show 7 ≤ 100000; decide⟩, fun d c2 s2 hd2 => ?_⟩
  rw [Cells.put_put]
  have hd2 : d ∈ (knownsOf u).map dChs := hd2
  obtain ⟨cs, hcs, rfl⟩ := List.mem_map.mp hd2
  exact q cs c2 s2 (List.mem_flatMap.mpr ⟨u, hu, hcs⟩)
/-! ### the program's own answer -/
def sp_are_partition2 : Sp2 := psp (α := List (List Sl)) (fun a => [dChs a]) (fun a => (∀ c, c ∈ a → okC c) ∧ 1 ≤ a.length ∧ a.length ≤ 3) (fun a => .bl (partB a))
theorem pure_are_partition2 : Pure 7 sp_are_partition2 T_are_partition := by
  rintro ds S Q E frg ⟨cs, rfl, ⟨ok, l1, l2⟩, q⟩
  have ok : ∀ c, c ∈ cs → okC c := ok
  have l1 : 1 ≤ cs.length := l1
  have l2 : cs.length ≤ 3 := l2
  have q : Q (.bl (partB cs)) S := q
  have p0 := perL_pos ok
  have p1 : lcmL (cs.map per) 1 ∣ 1296 := by
    have g : ∀ (l : List Int) (m : Int), m ∣ 1296 → (∀ t, t ∈ l → t ∣ 1296) → lcmL l m ∣ 1296 := fun l => by
      induction l with
      | nil => exact fun m h _ => h
      | cons t l ih => exact fun m h hl => ih (lcmI m t) (lcm_dvd h (hl t List.mem_cons_self)) fun u hu => hl u (List.mem_cons_of_mem _ hu)
    exact g _ 1 (by decide) fun t ht => by
      obtain ⟨c, hc, rfl⟩ := List.mem_map.mp ht
      exact per_dvd (ok c hc)
  have p2 := Int.le_of_dvd (by decide) p1
  have t0 := maxL_base (cs.map thr) 0
  have t1 : maxL (cs.map thr) 0 ≤ 2440 := maxL_le _ 0 2440 (by decide) fun t ht => by
    obtain ⟨c, hc, rfl⟩ := List.mem_map.mp ht
    exact thr_le2 (ok c hc)
  have eN : pN cs = 2 * maxL (cs.map thr) 0 + 3 * lcmL (cs.map per) 1 := rfl
  unfold T_are_partition
  walk_at "wp"
  refine ⟨(cs, 3), rfl, ⟨ok, l1, by show (cs.length : Int) ≤ 3; omega, by show (3 : Int) ≤ 1000; decide⟩, ?_⟩
  unfold dChs
  walk_at "wp"
  refine loop_rest dCh (fun r ds S2 => S2 = S ∧ (∀ c, c ∈ r → okC c) ∧ ∃ m x2 x3 x4 x5 x6, (0 < m ∧ m ∣ 1296) ∧ lcmL (r.map per) m = lcmL (cs.map per) 1 ∧ ds = [some (.tup (cs.map dCh)), some (.int m), x2, x3, x4, x5, x6]) ?_ ?_ cs _ _ ⟨rfl, ok, 1, _, _, _, _, _, ⟨by decide, by decide⟩, rfl, rfl⟩
  · rintro c r ds S2 N ⟨rfl, okr, m, _, _, _, _, _, ⟨m0, m1⟩, em, rfl⟩ hN
    have hc := okr c List.mem_cons_self
    have c0 := per_pos hc
    have c1 := per_le hc
    have m2 := Int.le_of_dvd (by decide) m1
    walk_at "wp"
    exact ⟨c, rfl, hc, (m, per c), rfl, ⟨m0, c0, by show m ≤ 1000000000; omega, by show per c ≤ 1000000000; omega⟩, hN _ _ ⟨rfl, fun d hd => okr d (List.mem_cons_of_mem _ hd), lcmI m (per c), _, _, _, _, _, ⟨lcm_pos m0 c0, lcm_dvd m1 (per_dvd hc)⟩, em, rfl⟩⟩
  · rintro ds S2 ⟨rfl, _, m, _, _, _, _, _, _, em, rfl⟩
    have em : m = lcmL (cs.map per) 1 := em
    subst em
    unfold dLc
    walk_at "wp"
    refine comp_mapE (l := cs) dCh (fun z => .int (thr z)) (by omega) (fun z hz S3 R r => ?_) (.inl ⟨_, cs.map thr, rfl, by rw [List.map_map]; rfl, by rw [List.length_map]; omega, fun m hm hle => ?_⟩)
    · walk_at "wp"
      exact ⟨z, rfl, ok z hz, r⟩
    have em : m = maxL (cs.map thr) 0 := max_uniq (fun t ht => by
      obtain ⟨c, hc, rfl⟩ := List.mem_map.mp ht
      exact thr_nn (ok c hc)) hm hle
    subst em
    refine ⟨_, rfl, .inl ⟨by decide, by decide⟩, .inl ⟨by decide, by decide⟩, ?_⟩
    rw [← eN]
    refine ⟨by omega, by omega, ?_⟩
    refine loop_rng (fun i ds S3 => S3 = S2 ∧ (∀ j : Nat, j < i → cntL cs (j : Int) = j) ∧ ∃ x2 x4 x5 x6, ds = [some (.tup (cs.map dCh)), some (.int (lcmL (cs.map per) 1)), x2, some (.int (pN cs)), x4, x5, x6]) ⟨rfl, fun j hj => absurd hj (Nat.not_lt_zero _), _, _, _, _, rfl⟩ ?_ ?_
    · rintro i ds S3 N hi ⟨rfl, hj, _, _, _, _, rfl⟩ hN
      walk_at "wp"
      rw [Int.zero_add]
      refine comp_mapE (l := cs) dCh (fun z => .int (shown z (i : Int)).2.2) (by omega) (fun z hz S4 R r => ?_) (.inl ⟨_, cs.map fun c => (shown c (i : Int)).2.2, rfl, by rw [List.map_map]; rfl, ?_⟩)
      · walk_at "wp"
        exact ⟨(z, (i : Int)), rfl, ⟨(ok z hz).2, by show 0 ≤ (i : Int); omega, by show (i : Int) ≤ 10 ^ 18; omega⟩, _, rfl, _, at_2, r⟩
      · refine ⟨_, sEq_ii, ite2 (fun k => ?_) (fun k => hN _ _ ⟨rfl, fun j h => ?_, _, _, _, _, rfl⟩)⟩
        · have k : ¬ cntL cs (i : Int) = (i : Int) := by simpa [cntL] using k
          have f : partB cs = false := Bool.eq_false_iff.mpr fun t => k (part_iff.mp t i hi).1
          rw [f] at q
          exact q
        · by_cases e : j = i
          · subst e
            simpa [cntL] using k
          · exact hj j (by omega)
    · rintro ds S3 ⟨rfl, hj, _, _, _, _, rfl⟩
      walk_at "wp"
      rw [enumD_map dCh cs []]
      refine loop_idx (fun j => .tup [.int (j : Int), dCh (cs.getD j [])]) (fun i ds S4 => S4 = S3 ∧ (∀ j : Nat, j < i → ∀ d, d ∈ cs.take j → apartB (cs.getD j []) d (pN cs).toNat = true) ∧ ∃ x2 x4 x5 x6, ds = [some (.tup (cs.map dCh)), some (.int (lcmL (cs.map per) 1)), x2, some (.int (pN cs)), x4, x5, x6]) ⟨rfl, fun j hj => absurd hj (Nat.not_lt_zero _), _, _, _, _, rfl⟩ ?_ ?_
      · rintro i ds S4 N hi ⟨rfl, hj, _, _, _, _, rfl⟩ hN
        have oi : okC (cs.getD i []) := by
          rw [List.getD_eq_getElem?_getD, List.getElem?_eq_getElem hi]
          exact ok _ (List.getElem_mem hi)
        walk_at "wp"
        rw [cutG_map, cutG_to]
        refine comp_mapE (l := cs.take i) dCh (fun z => .bl (apartB (cs.getD i []) z (pN cs).toNat)) (by rw [List.length_take]; omega) (fun z hz S5 R r => ?_) (.inl ⟨_, (cs.take i).map fun z => apartB (cs.getD i []) z (pN cs).toNat, rfl, by rw [List.map_map]; rfl, _, rfl, ite2 (fun k => ?_) (fun k => hN _ _ ⟨rfl, fun j h => ?_, _, _, _, _, rfl⟩)⟩)
        · walk_at "wp"
          exact ⟨(cs.getD i [], z, pN cs), rfl, ⟨oi, ok z (List.mem_of_mem_take hz), by show 0 ≤ pN cs; omega, by show pN cs < 100000; omega⟩, r⟩
        · have f : partB cs = false := Bool.eq_false_iff.mpr fun t => by
            have t2 := (Bool.and_eq_true_iff.mp t).2
            have t3 := List.all_eq_true.mp t2 i (List.mem_range.mpr hi)
            rw [List.all_map] at k
            have e : ((cs.take i).all (id ∘ fun z => apartB (cs.getD i []) z (pN cs).toNat)) = true := t3
            rw [e] at k
            exact absurd k (by decide)
          rw [f] at q
          exact q
        · by_cases e : j = i
          · subst e
            intro d hd
            rw [List.all_map] at k
            have k2 : ((cs.take j).all (id ∘ fun z => apartB (cs.getD j []) z (pN cs).toNat)) = true := by simpa using k
            exact List.all_eq_true.mp k2 d hd
          · exact hj j (by omega)
      · rintro ds S4 ⟨rfl, hj2, _, _, _, _, rfl⟩
        walk_at "wp"
        have f : partB cs = true := by
          unfold partB
          rw [Bool.and_eq_true, List.all_eq_true, List.all_eq_true]
          exact ⟨fun n hn => decide_eq_true (hj n (List.mem_range.mp hn)), fun i hi => List.all_eq_true.mpr fun d hd => hj2 i (List.mem_range.mp hi) d hd⟩
        rw [f] at q
        exact q
def T_law : TS2 :=
  (dSeq (dFor (dRng1 (dOp qAdd (dCB qMin2 (dCons (dCB qLen (dCons (dVar 0) dNil)) (dCons (dC (.int 5)) dNil))) (dC (.int 2)))) (kName 1) (dSeq (dSet 2 (dCall sp__law_bag (dCons (dVar 0) (dCons (dVar 1) dNil))))
  (dSeq (dFor (dRng1 (dC (.int 3))) (kName 3) (dSeq (dPar 4 5 (dCons (dCall sp__law_chain (dCons (dVar 2) (dCons (dC (.int 2)) (dCons (dC (.int 3)) dNil)))) (dCons (dCall sp__law_chain (dCons (dVar 2) (dCons (dC (.int 2)) (dCons (dC (.int 3)) dNil)))) dNil)))
  (dSeq (dAsg (dCall sp__law_limit (dCons (dVar 4) (dCons (dVar 5) dNil))) (kTup 2 (kCons (kName 6) (kCons (kName 7) kNil))))
  (dSeq (dSet 8 (dCall sp__law_apart (dCons (dVar 4) (dCons (dVar 5) (dCons (dCB qMin2 (dCons (dC (.int 150)) (dCons (dOp qAdd (dOp qAdd (dOp qMul (dC (.int 2)) (dVar 6)) (dOp qMul (dC (.int 4)) (dVar 7))) (dC (.int 9))) dNil))) dNil)))))
  (dIfS (dOr (dAnd (dTest (dCall sp_are_disjoint (dCons (dVar 4) (dCons (dVar 5) dNil)))) (dNot (dTest (dVar 8)))) (dAnd (dTest (dOp qLt (dOp qAdd (dVar 6) (dVar 7)) (dC (.int 25)))) (dTest (dOp qNe (dCall sp_are_disjoint (dCons (dVar 4) (dCons (dVar 5) dNil))) (dVar 8))))) (dRet (dC (.bl false))) dNext)))))
  (dSeq (dSet 9 (dCall sp__law_known (dCons (dVar 2) dNil)))
  (dSeq (dIfS (dOr (dTest (dOp qNotB (dCall sp_are_partition2 (dCons (dVar 9) dNil)) (dC (.bl true)))) (dNot (dTest (dCall sp__law_shares (dCons (dVar 9) (dCons (dC (.int 30)) dNil)))))) (dRet (dC (.bl false))) dNext)
  (dSeq (dSet 10 (dCall sp__law_take (dCons (dVar 2) (dCons (dCB qLen (dCons (dVar 9) dNil)) dNil))))
  (dSeq (dSet 11 (dOp qCatT (dOp qCatT (dSl qSlT (dVar 9) dNoP (dPart (dVar 10))) (dTup (dCons (dCall sp__law_chain (dCons (dVar 2) (dCons (dC (.int 2)) (dCons (dC (.int 3)) dNil)))) dNil))) (dSl qSlT (dVar 9) (dPart (dOp qAdd (dVar 10) (dC (.int 1)))) dNoP)))
  (dSeq (dIfS (dTest (dOp qNe (dCall sp_are_partition2 (dCons (dVar 11) dNil)) (dCall sp__law_shares (dCons (dVar 11) (dCons (dC (.int 120)) dNil))))) (dRet (dC (.bl false))) dNext)
  (dIfS (dAnd (dTest (dOp qGt (dCB qLen (dCons (dVar 9) dNil)) (dC (.int 1)))) (dTest (dOp qNotB (dCall sp_are_disjoint (dCons (dOp qIx (dVar 9) (dC (.int 0))) (dCons (dOp qIx (dVar 9) (dC (.int 1))) dNil))) (dC (.bl true))))) (dRet (dC (.bl false))) dNext)))))))))
  (dSeq (dIfS (dOr (dTest (dOp qNotB (dCall sp_are_disjoint (dCons (dTup (dCons (dTup (dCons (dC (.int 20)) (dCons (dC (.int 21)) (dCons (dC (.int 1)) dNil)))) dNil)) (dCons (dTup (dCons (dTup (dCons (dUn qNeg (dC (.int 20))) (dCons (dUn qNeg (dC (.int 19))) (dCons (dC (.int 1)) dNil)))) dNil)) dNil))) (dC (.bl false)))) (dTest (dOp qNotB (dCall sp_are_partition2 (dCons (dTup (dCons (dTup (dCons (dTup (dCons (dC .non) (dCons (dC (.int 30)) (dCons (dC (.int 1)) dNil)))) dNil)) dNil)) dNil)) (dC (.bl false))))) (dRet (dC (.bl false))) dNext)
  (dSeq (dIfS (dTest (dOp qNotB (dCall sp_are_partition2 (dCons (dTup (dCons (dTup (dCons (dTup (dCons (dC .non) (dCons (dC (.int 1)) (dCons (dC (.int 1)) dNil)))) dNil)) (dCons (dTup (dCons (dTup (dCons (dC .non) (dCons (dUn qNeg (dC (.int 1))) (dCons (dC (.int 1)) dNil)))) dNil)) dNil))) dNil)) (dC (.bl false)))) (dRet (dC (.bl false))) dNext)
  (dRet (dOp qIsB (dCall sp_are_disjoint (dCons (dTup (dCons (dTup (dCons (dC .non) (dCons (dC .non) (dCons (dC (.int 2)) dNil)))) dNil)) (dCons (dTup (dCons (dTup (dCons (dC (.int 1)) (dCons (dC .non) (dCons (dC (.int 2)) dNil)))) dNil)) dNil))) (dC (.bl true)))))))
theorem pure_law : Pure 12 sp_law T_law := by
  rintro ds S Q E frg ⟨ns, rfl, hl, q⟩
  unfold T_law
  walk_at "wp"
  have b : -1000000000000000000 ≤ (if (5 : Int) < ((ns.map Dt.int).length : Int) then (5 : Int) else ((ns.map Dt.int).length : Int)) + 2 ∧ (if (5 : Int) < ((ns.map Dt.int).length : Int) then (5 : Int) else ((ns.map Dt.int).length : Int)) + 2 ≤ 10 := by
    split <;> omega
  refine ⟨b.1, by omega, ?_⟩
  refine loop_rng (fun _ ds S' => ∃ x1 x2 x3 x4 x5 x6 x7 x8 x9 x10 x11, ds = [some (.lst (ns.map Dt.int)), x1, x2, x3, x4, x5, x6, x7, x8, x9, x10, x11]) ⟨_, _, _, _, _, _, _, _, _, _, _, rfl⟩ ?_ ?_
  · rintro i ds S' N hi ⟨_, _, _, _, _, _, _, _, _, _, _, rfl⟩ hN
    walk_at "wp"
    refine ⟨ns, 0 + (i : Int), rfl, by omega, by omega, fun p c s hp => ?_⟩
    walk_at "wp"
    refine ⟨by decide, by decide, ?_⟩
    refine loop_rng (fun _ ds S2 => Bag S2 p ∧ ∃ x1 x3 x4 x5 x6 x7 x8 x9 x10 x11, ds = [some (.lst (ns.map Dt.int)), x1, some (.ref p), x3, x4, x5, x6, x7, x8, x9, x10, x11]) ⟨Bag.put, _, _, _, _, _, _, _, _, _, _, rfl⟩ ?_ ?_
    · rintro j ds S2 N2 hj ⟨hb, _, _, _, _, _, _, _, _, _, _, rfl⟩ hN2
      walk_at "wp"
      refine ⟨p, (2, 3), rfl, hb, by decide, fun c1 a1 s1 h1 => ?_⟩
      refine ⟨p, (2, 3), rfl, Bag.put, by decide, fun c2 a2 s2 h2 => ?_⟩
      rw [Cells.put_put]
      have k1 := chW_ok (by decide) (by decide) h1
      have k2 := chW_ok (by decide) (by decide) h2
      have t1 := thr_nn k1
      have t2 := thr_le2 k1
      have t3 := thr_nn k2
      have t4 := thr_le2 k2
      have pp := bothP_pos k1 k2
      have pl := bothP_le k1 k2
      have lt : lastT c1 c2 = max (thr c1) (thr c2) := rfl
      have bn : bnd c1 c2 = lastT c1 c2 + 3 * bothP c1 c2 := rfl
      dsimp only
      refine ⟨(c1, c2), rfl, ⟨k1, k2⟩, ?_⟩
      walk_at "wp"
      obtain ⟨M, eM⟩ : ∃ M : Int, M = (if 2 * lastT c1 c2 + 4 * bothP c1 c2 + 9 < 150 then 2 * lastT c1 c2 + 4 * bothP c1 c2 + 9 else 150) := ⟨_, rfl⟩
      rw [← eM]
      have M0 : 0 ≤ M ∧ M ≤ 150 ∧ (lastT c1 c2 + bothP c1 c2 < 25 → 2 * lastT c1 c2 + 2 * bothP c1 c2 ≤ M) := by
        rw [eM]
        split <;> omega
      have hAD : apartB c1 c2 (bnd c1 c2 + lastT c1 c2).toNat = true → apartB c1 c2 M.toNat = true := fun h => apart_every k1 k2 (by omega) h _
      have hDA : lastT c1 c2 + bothP c1 c2 < 25 → apartB c1 c2 M.toNat = true → apartB c1 c2 (bnd c1 c2 + lastT c1 c2).toNat = true := fun h1 h => apart_every k1 k2 (by have := M0.2.2 h1; omega) h _
      refine ⟨.inl ⟨by decide, by decide⟩, .inl ⟨by decide, by decide⟩, (c1, c2, M), rfl, ⟨k1, k2, M0.1, by show M ≤ 1000; omega⟩, (c1, c2), rfl, ⟨k1, k2⟩, _, rfl, ?_⟩
      have nx : ∀ y1 y9 y10 y11, N2 [some (.lst (ns.map Dt.int)), y1, some (.ref p), some (.int (0 + (j : Int))), some (dCh c1), some (dCh c2), some (.int (lastT c1 c2)), some (.int (bothP c1 c2)), some (.bl (apartB c1 c2 M.toNat)), y9, y10, y11] (S2.put p (.lst [.int a2, .int s2])) := fun _ _ _ _ => hN2 _ _ ⟨Bag.put, _, _, _, _, _, _, _, _, _, _, rfl⟩
      dsimp only
      have sec : lastT c1 c2 + bothP c1 c2 < 25 → (!decide (apartB c1 c2 (bnd c1 c2 + lastT c1 c2).toNat = apartB c1 c2 M.toNat)) = false := fun h => by
        have e : apartB c1 c2 (bnd c1 c2 + lastT c1 c2).toNat = apartB c1 c2 M.toNat := by
          rw [Bool.eq_iff_iff]
          exact ⟨hAD, hDA h⟩
        rw [decide_eq_true e]
        rfl
      refine ite2 (fun hA => ⟨_, rfl, iteN (by rw [hAD hA]; decide) ?_⟩) (fun hA => iteN (by decide) ?_)
      · exact ite2 (fun h => ⟨(c1, c2), rfl, ⟨k1, k2⟩, _, sEq_bb, iteN (by rw [sec h]; decide) (nx _ _ _ _)⟩) (fun _ => iteN (by decide) (nx _ _ _ _))
      · exact ite2 (fun h => ⟨(c1, c2), rfl, ⟨k1, k2⟩, _, sEq_bb, iteN (by rw [sec h]; decide) (nx _ _ _ _)⟩) (fun _ => iteN (by decide) (nx _ _ _ _))
    · rintro ds S2 ⟨hb, _, _, _, _, _, _, _, _, _, _, rfl⟩
      walk_at "wp"
      refine ⟨p, (), rfl, hb, trivial, fun cs a1 s1 hcs => ?_⟩
      have hcs : cs ∈ knowns := hcs
      obtain ⟨f1, f2, f3, f4, f5, f6, f7⟩ := known_facts hcs
      refine ⟨cs, rfl, ⟨f1, f3, f4⟩, _, rfl, ?_⟩
      refine iteN (by show ¬ (!decide (partB cs = true)) = true; rw [f5]; decide) ⟨(cs, 30), rfl, ⟨f1, f4, by show (0 : Int) ≤ 30; decide, by show (30 : Int) ≤ 1000; decide⟩, fun b1 hb1 => ?_⟩
      have eb1 : b1 = true := hb1.mpr fun n _ => part_every f1 f5 n
      subst eb1
      refine ⟨true, rfl, iteN (by decide) ⟨cs.map dCh, rfl, p, ((cs.map dCh).length : Int), rfl, Bag.put, ⟨by rw [List.length_map]; omega, by rw [List.length_map]; omega⟩, fun at_ a2 s2 hat => ?_⟩⟩
      rw [Cells.put_put]
      have hat : 0 ≤ at_ ∧ at_ < ((cs.map dCh).length : Int) := hat
      rw [List.length_map] at hat
      obtain ⟨u, rfl⟩ : ∃ u : Nat, at_ = (u : Int) := ⟨at_.toNat, by omega⟩
      have hu : u < cs.length := by omega
      refine ⟨_, rfl, cs.map dCh, rfl, p, (2, 3), rfl, Bag.put, by decide, fun c a3 s3 h3 => ?_⟩
      rw [Cells.put_put]
      have k3 := chW_ok (by decide) (by decide) h3
      have e0 : cutG (cs.map dCh) none (some (u : Int)) ++ [dCh c] ++ cutG (cs.map dCh) (some ((u : Int) + 1)) none = (cs.take u ++ [c] ++ cs.drop (u + 1)).map dCh := by
        rw [cutG_to, cutG_next, List.map_append, List.map_append, List.map_take, List.map_drop]
        rfl
      have l0 : (cutG (cs.map dCh) none (some (u : Int))).length ≤ 3 := by
        rw [cutG_to, List.length_take, List.length_map]
        omega
      have l1 : (cutG (cs.map dCh) (some ((u : Int) + 1)) none).length ≤ 3 := by
        rw [cutG_next, List.length_drop, List.length_map]
        omega
      refine ⟨by decide, by omega, _, rfl, cs.map dCh, rfl, by rw [List.length_append, List.length_singleton]; omega, ?_⟩
      rw [e0]
      obtain ⟨es, ees⟩ : ∃ es, es = cs.take u ++ [c] ++ cs.drop (u + 1) := ⟨_, rfl⟩
      have ok3 : ∀ d, d ∈ es → okC d := fun d hd => by
        rw [ees] at hd
        rcases List.mem_append.mp hd with hd | hd
        · rcases List.mem_append.mp hd with hd | hd
          · exact f1 d (List.mem_of_mem_take hd)
          · rw [List.mem_singleton.mp hd]
            exact k3
        · exact f1 d (List.mem_of_mem_drop hd)
      have le3 : 1 ≤ es.length ∧ es.length ≤ 3 := by
        rw [ees, List.length_append, List.length_append, List.length_singleton, List.length_take, List.length_drop]
        omega
      have pn := spoiled_le hcs h3 hu
      rw [← ees] at pn ⊢
      refine ⟨es, rfl, ⟨ok3, le3.1, le3.2⟩, (es, 120), rfl, ⟨ok3, le3.2, by show (0 : Int) ≤ 120; decide, by show (120 : Int) ≤ 1000; decide⟩, fun b2 hb2 => ?_⟩
      have eb2 : partB es = b2 := by
        rw [Bool.eq_iff_iff]
        exact (part_by ok3 (M := 120) (by omega)).trans hb2.symm
      refine ⟨_, sEq_bb, iteN (by show ¬ (!decide (partB es = b2)) = true; rw [decide_eq_true eb2]; decide) ⟨cs.map dCh, rfl, ?_⟩⟩
      have nx : ∀ y1 y3 y4 y5 y6 y7 y8 y9 y10 y11, N [some (.lst (ns.map Dt.int)), y1, some (.ref p), y3, y4, y5, y6, y7, y8, y9, y10, y11] (S2.put p (.lst [.int a3, .int s3])) := fun _ _ _ _ _ _ _ _ _ _ => hN _ _ ⟨_, _, _, _, _, _, _, _, _, _, _, rfl⟩
      refine ite2 (fun h => ?_) (fun _ => iteN (by decide) (nx _ _ _ _ _ _ _ _ _ _))
      match cs, f1, f6, h with
      | a :: d :: r, f1, f6, _ =>
        have g := f6 a d r rfl
        refine ⟨_, rfl, dCh a, at_0, _, rfl, dCh d, at_1, (a, d), rfl, ⟨f1 a List.mem_cons_self, f1 d (List.mem_cons_of_mem _ List.mem_cons_self)⟩, _, rfl, iteN ?_ (nx _ _ _ _ _ _ _ _ _ _)⟩
        show ¬ (!decide (apartB a d (bnd a d + lastT a d).toNat = true)) = true
        rw [g]
        decide
      | [a], _, _, h => exact absurd h (by show ¬ (1 : Int) < ((1 : Nat) : Int); omega)
      | [], _, _, h => exact absurd h (by show ¬ (1 : Int) < ((0 : Nat) : Int); omega)
  · rintro ds S' ⟨_, _, _, _, _, _, _, _, _, _, _, rfl⟩
    walk_at "wp"
    have oA : okC [(some 20, some 21, 1)] := lit_ok (by decide) rfl
    have oB : okC [(some (-20), some (-19), 1)] := lit_ok (by decide) rfl
    have oC : okC [(none, some 30, 1)] := lit_ok (by decide) rfl
    have oD : okC [(none, some 1, 1)] := lit_ok (by decide) rfl
    have oE : okC [(none, some (-1), 1)] := lit_ok (by decide) rfl
    have oF : okC [(none, none, 2)] := lit_ok (by decide) rfl
    have oG : okC [(some 1, none, 2)] := lit_ok (by decide) rfl
    have v1 : apartB [(some 20, some 21, 1)] [(some (-20), some (-19), 1)] (bnd [(some 20, some 21, 1)] [(some (-20), some (-19), 1)] + lastT [(some 20, some 21, 1)] [(some (-20), some (-19), 1)]).toNat = false := by decide +kernel
    have v2 : partB [[(none, some 30, 1)]] = false := by decide +kernel
    have v3 : partB [[(none, some 1, 1)], [(none, some (-1), 1)]] = false := by decide +kernel
    have v4 : apartB [(none, none, 2)] [(some 1, none, 2)] (bnd [(none, none, 2)] [(some 1, none, 2)] + lastT [(none, none, 2)] [(some 1, none, 2)]).toNat = true := by decide +kernel
    refine ⟨by decide, by decide, by decide, by decide, ([(some 20, some 21, 1)], [(some (-20), some (-19), 1)]), rfl, ⟨oA, oB⟩, _, rfl, ?_⟩
    try dsimp only
    rw [v1]
    refine iteN (by decide) ⟨by decide, by decide, by decide, [[(none, some 30, 1)]], rfl, ⟨fun c h => by rw [List.mem_singleton.mp h]; exact oC, by decide, by decide⟩, _, rfl, ?_⟩
    try dsimp only
    rw [v2]
    refine iteN (by decide) ⟨by decide, by decide, by decide, by decide, by decide, [[(none, some 1, 1)], [(none, some (-1), 1)]], rfl, ⟨fun c h => ?_, by decide, by decide⟩, _, rfl, ?_⟩
    · rcases List.mem_cons.mp h with rfl | h
      · exact oD
      · rw [List.mem_singleton.mp h]
        exact oE
    try dsimp only
    rw [v3]
    refine iteN (by decide) ⟨by decide, by decide, by decide, by decide, ([(none, none, 2)], [(some 1, none, 2)]), rfl, ⟨oF, oG⟩, _, rfl, ?_⟩
    try dsimp only
    rw [v4]
    exact q _

def top (i : Nat) : Stmt := PySem.Challenge.pw_slicechains_k15_whole_disjoint_chains_an.main.body.getD i (.Pass ⟨0, 0, 0, 0⟩)
abbrev s_is_integer : Stmt := top 8
abbrev N_is_integer : List Str := ["value", "low", "high"]
theorem sc_is_integer : FnScope N_is_integer ["value", "low", "high"] (defScope s_is_integer) := ⟨rfl, rfl, rfl, by decide +kernel, rfl, by decide +kernel, by decide +kernel⟩
abbrev s_is_bound : Stmt := top 9
abbrev N_is_bound : List Str := ["value"]
theorem sc_is_bound : FnScope N_is_bound ["value"] (defScope s_is_bound) := ⟨rfl, rfl, rfl, by decide +kernel, rfl, by decide +kernel, by decide +kernel⟩
abbrev s_is_step : Stmt := top 10
abbrev N_is_step : List Str := ["value"]
theorem sc_is_step : FnScope N_is_step ["value"] (defScope s_is_step) := ⟨rfl, rfl, rfl, by decide +kernel, rfl, by decide +kernel, by decide +kernel⟩
abbrev s_is_slice : Stmt := top 11
abbrev N_is_slice : List Str := ["value"]
theorem sc_is_slice : FnScope N_is_slice ["value"] (defScope s_is_slice) := ⟨rfl, rfl, rfl, by decide +kernel, rfl, by decide +kernel, by decide +kernel⟩
abbrev s_is_chain : Stmt := top 12
abbrev N_is_chain : List Str := ["value", "one"]
theorem sc_is_chain : FnScope N_is_chain ["value"] (defScope s_is_chain) := ⟨rfl, rfl, rfl, by decide +kernel, rfl, by decide +kernel, by decide +kernel⟩
abbrev s_require_chain : Stmt := top 13
abbrev N_require_chain : List Str := ["chain"]
theorem sc_require_chain : FnScope N_require_chain ["chain"] (defScope s_require_chain) := ⟨rfl, rfl, rfl, by decide +kernel, rfl, by decide +kernel, by decide +kernel⟩
abbrev s_moved : Stmt := top 14
abbrev N_moved : List Str := ["bound", "count", "low", "high", "place"]
theorem sc_moved : FnScope N_moved ["bound", "count", "low", "high"] (defScope s_moved) := ⟨rfl, rfl, rfl, by decide +kernel, rfl, by decide +kernel, by decide +kernel⟩
abbrev s_ends : Stmt := top 15
abbrev N_ends : List Str := ["one", "count", "start", "stop", "step", "first"]
theorem sc_ends : FnScope N_ends ["one", "count"] (defScope s_ends) := ⟨rfl, rfl, rfl, by decide +kernel, rfl, by decide +kernel, by decide +kernel⟩
abbrev s_applied : Stmt := top 16
abbrev N_applied : List Str := ["one", "shown", "first", "step", "count", "begin", "end", "many"]
theorem sc_applied : FnScope N_applied ["one", "shown"] (defScope s_applied) := ⟨rfl, rfl, rfl, by decide +kernel, rfl, by decide +kernel, by decide +kernel⟩
abbrev s_shown_by : Stmt := top 17
abbrev N_shown_by : List Str := ["chain", "length", "shown", "one"]
theorem sc_shown_by : FnScope N_shown_by ["chain", "length"] (defScope s_shown_by) := ⟨rfl, rfl, rfl, by decide +kernel, rfl, by decide +kernel, by decide +kernel⟩
abbrev s_threshold_of : Stmt := top 19
abbrev N_threshold_of : List Str := ["chain", "found", "weight", "start", "stop", "step"]
theorem sc_threshold_of : FnScope N_threshold_of ["chain"] (defScope s_threshold_of) := ⟨rfl, rfl, rfl, by decide +kernel, rfl, by decide +kernel, by decide +kernel⟩
abbrev s_period_of : Stmt := top 20
abbrev N_period_of : List Str := ["chain", "found", "start", "stop", "step"]
theorem sc_period_of : FnScope N_period_of ["chain"] (defScope s_period_of) := ⟨rfl, rfl, rfl, by decide +kernel, rfl, by decide +kernel, by decide +kernel⟩
abbrev s_common_multiple : Stmt := top 22
abbrev N_common_multiple : List Str := ["one", "other", "first", "second"]
theorem sc_common_multiple : FnScope N_common_multiple ["one", "other"] (defScope s_common_multiple) := ⟨rfl, rfl, rfl, by decide +kernel, rfl, by decide +kernel, by decide +kernel⟩
abbrev s_last_threshold : Stmt := top 23
abbrev N_last_threshold : List Str := ["first", "second"]
theorem sc_last_threshold : FnScope N_last_threshold ["first", "second"] (defScope s_last_threshold) := ⟨rfl, rfl, rfl, by decide +kernel, rfl, by decide +kernel, by decide +kernel⟩
abbrev s_both_periods : Stmt := top 24
abbrev N_both_periods : List Str := ["first", "second"]
theorem sc_both_periods : FnScope N_both_periods ["first", "second"] (defScope s_both_periods) := ⟨rfl, rfl, rfl, by decide +kernel, rfl, by decide +kernel, by decide +kernel⟩
abbrev s_bound_for : Stmt := top 25
abbrev N_bound_for : List Str := ["first", "second"]
theorem sc_bound_for : FnScope N_bound_for ["first", "second"] (defScope s_bound_for) := ⟨rfl, rfl, rfl, by decide +kernel, rfl, by decide +kernel, by decide +kernel⟩
abbrev s_require_both : Stmt := top 26
abbrev N_require_both : List Str := ["first", "second"]
theorem sc_require_both : FnScope N_require_both ["first", "second"] (defScope s_require_both) := ⟨rfl, rfl, rfl, by decide +kernel, rfl, by decide +kernel, by decide +kernel⟩
abbrev s_rising : Stmt := top 28
abbrev N_rising : List Str := ["shown", "first", "step", "count"]
theorem sc_rising : FnScope N_rising ["shown"] (defScope s_rising) := ⟨rfl, rfl, rfl, by decide +kernel, rfl, by decide +kernel, by decide +kernel⟩
abbrev s_inverse : Stmt := top 29
abbrev N_inverse : List Str := ["number", "modulus", "one", "other", "first", "second", "times"]
theorem sc_inverse : FnScope N_inverse ["number", "modulus"] (defScope s_inverse) := ⟨rfl, rfl, rfl, by decide +kernel, rfl, by decide +kernel, by decide +kernel⟩
abbrev s_meeting : Stmt := top 30
abbrev N_meeting : List Str := ["one", "other", "low", "step", "count", "begin", "width", "many", "whole", "shared", "modulus", "number", "place", "least", "last"]
theorem sc_meeting : FnScope N_meeting ["one", "other"] (defScope s_meeting) := ⟨rfl, rfl, rfl, by decide +kernel, rfl, by decide +kernel, by decide +kernel⟩
abbrev s_common_at : Stmt := top 31
abbrev N_common_at : List Str := ["first", "second", "length"]
theorem sc_common_at : FnScope N_common_at ["first", "second", "length"] (defScope s_common_at) := ⟨rfl, rfl, rfl, by decide +kernel, rfl, by decide +kernel, by decide +kernel⟩
abbrev s_are_apart : Stmt := top 32
abbrev N_are_apart : List Str := ["first", "second", "bound", "length"]
theorem sc_are_apart : FnScope N_are_apart ["first", "second", "bound"] (defScope s_are_apart) := ⟨rfl, rfl, rfl, by decide +kernel, rfl, by decide +kernel, by decide +kernel⟩
abbrev s_are_disjoint : Stmt := top 33
abbrev N_are_disjoint : List Str := ["first", "second"]
theorem sc_are_disjoint : FnScope N_are_disjoint ["first", "second"] (defScope s_are_disjoint) := ⟨rfl, rfl, rfl, by decide +kernel, rfl, by decide +kernel, by decide +kernel⟩
abbrev s_require_chains : Stmt := top 34
abbrev N_require_chains : List Str := ["chains", "most", "one"]
theorem sc_require_chains : FnScope N_require_chains ["chains", "most"] (defScope s_require_chains) := ⟨rfl, rfl, rfl, by decide +kernel, rfl, by decide +kernel, by decide +kernel⟩
abbrev s_are_partition : Stmt := top 35
abbrev N_are_partition : List Str := ["chains", "modulus", "chain", "bound", "length", "index", "other"]
theorem sc_are_partition : FnScope N_are_partition ["chains"] (defScope s_are_partition) := ⟨rfl, rfl, rfl, by decide +kernel, rfl, by decide +kernel, by decide +kernel⟩
abbrev s__law_bag : Stmt := top 37
abbrev N__law_bag : List Str := ["_law_script", "_law_k", "_law_cell", "_law_seed"]
theorem sc__law_bag : FnScope N__law_bag ["_law_script", "_law_k"] (defScope s__law_bag) := ⟨rfl, rfl, rfl, by decide +kernel, rfl, by decide +kernel, by decide +kernel⟩
abbrev s__law_take : Stmt := top 38
abbrev N__law_take : List Str := ["_law_bag_here", "_law_count", "_law_found"]
theorem sc__law_take : FnScope N__law_take ["_law_bag_here", "_law_count"] (defScope s__law_take) := ⟨rfl, rfl, rfl, by decide +kernel, rfl, by decide +kernel, by decide +kernel⟩
abbrev s__law_of : Stmt := top 39
abbrev N__law_of : List Str := ["_law_bag_here", "_law_some"]
theorem sc__law_of : FnScope N__law_of ["_law_bag_here", "_law_some"] (defScope s__law_of) := ⟨rfl, rfl, rfl, by decide +kernel, rfl, by decide +kernel, by decide +kernel⟩
abbrev s__law_bound : Stmt := top 40
abbrev N__law_bound : List Str := ["_law_bag_here", "_law_wide"]
theorem sc__law_bound : FnScope N__law_bound ["_law_bag_here", "_law_wide"] (defScope s__law_bound) := ⟨rfl, rfl, rfl, by decide +kernel, rfl, by decide +kernel, by decide +kernel⟩
abbrev s__law_slice : Stmt := top 41
abbrev N__law_slice : List Str := ["_law_bag_here", "_law_wide"]
theorem sc__law_slice : FnScope N__law_slice ["_law_bag_here", "_law_wide"] (defScope s__law_slice) := ⟨rfl, rfl, rfl, by decide +kernel, rfl, by decide +kernel, by decide +kernel⟩
abbrev s__law_chain : Stmt := top 42
abbrev N__law_chain : List Str := ["_law_bag_here", "_law_most", "_law_wide", "_law_turn"]
theorem sc__law_chain : FnScope N__law_chain ["_law_bag_here", "_law_most", "_law_wide"] (defScope s__law_chain) := ⟨rfl, rfl, rfl, by decide +kernel, rfl, by decide +kernel, by decide +kernel⟩
abbrev s__law_part : Stmt := top 43
abbrev N__law_part : List Str := ["_law_one", "_law_c", "_law_start", "_law_stop", "_law_step", "_law_low", "_law_high"]
theorem sc__law_part : FnScope N__law_part ["_law_one", "_law_c"] (defScope s__law_part) := ⟨rfl, rfl, rfl, by decide +kernel, rfl, by decide +kernel, by decide +kernel⟩
abbrev s__law_shown : Stmt := top 44
abbrev N__law_shown : List Str := ["_law_chain_here", "_law_length", "_law_first", "_law_step", "_law_count_so", "_law_one", "_law_begin", "_law_many"]
theorem sc__law_shown : FnScope N__law_shown ["_law_chain_here", "_law_length"] (defScope s__law_shown) := ⟨rfl, rfl, rfl, by decide +kernel, rfl, by decide +kernel, by decide +kernel⟩
abbrev s__law_weights : Stmt := top 45
abbrev N__law_weights : List Str := ["_law_chain_here", "_law_total", "_law_weight", "_law_start", "_law_stop", "_law_step"]
theorem sc__law_weights : FnScope N__law_weights ["_law_chain_here"] (defScope s__law_weights) := ⟨rfl, rfl, rfl, by decide +kernel, rfl, by decide +kernel, by decide +kernel⟩
abbrev s__law_multiple : Stmt := top 46
abbrev N__law_multiple : List Str := ["_law_one", "_law_other", "_law_found"]
theorem sc__law_multiple : FnScope N__law_multiple ["_law_one", "_law_other"] (defScope s__law_multiple) := ⟨rfl, rfl, rfl, by decide +kernel, rfl, by decide +kernel, by decide +kernel⟩
abbrev s__law_limit : Stmt := top 47
abbrev N__law_limit : List Str := ["_law_first", "_law_second", "_law_one", "_law_other"]
theorem sc__law_limit : FnScope N__law_limit ["_law_first", "_law_second"] (defScope s__law_limit) := ⟨rfl, rfl, rfl, by decide +kernel, rfl, by decide +kernel, by decide +kernel⟩
abbrev s__law_unlike : Stmt := top 48
abbrev N__law_unlike : List Str := ["_law_first", "_law_second", "_law_far", "_law_modulus", "_law_length"]
theorem sc__law_unlike : FnScope N__law_unlike ["_law_first", "_law_second"] (defScope s__law_unlike) := ⟨rfl, rfl, rfl, by decide +kernel, rfl, by decide +kernel, by decide +kernel⟩
abbrev s__law_places : Stmt := top 49
abbrev N__law_places : List Str := ["_law_chain_here", "_law_length", "_law_first", "_law_step", "_law_many", "_law_number"]
theorem sc__law_places : FnScope N__law_places ["_law_chain_here", "_law_length"] (defScope s__law_places) := ⟨rfl, rfl, rfl, by decide +kernel, rfl, by decide +kernel, by decide +kernel⟩
abbrev s__law_apart : Stmt := top 50
abbrev N__law_apart : List Str := ["_law_first", "_law_second", "_law_most", "_law_length", "_law_others", "_law_place"]
theorem sc__law_apart : FnScope N__law_apart ["_law_first", "_law_second", "_law_most"] (defScope s__law_apart) := ⟨rfl, rfl, rfl, by decide +kernel, rfl, by decide +kernel, by decide +kernel⟩
abbrev s__law_shares : Stmt := top 51
abbrev N__law_shares : List Str := ["_law_chains_so", "_law_most", "_law_length", "_law_found", "_law_chain_here"]
theorem sc__law_shares : FnScope N__law_shares ["_law_chains_so", "_law_most"] (defScope s__law_shares) := ⟨rfl, rfl, rfl, by decide +kernel, rfl, by decide +kernel, by decide +kernel⟩
abbrev s__law_known : Stmt := top 52
abbrev N__law_known : List Str := ["_law_bag_here", "_law_cut", "_law_halves", "_law_thirds", "_law_pairs", "_law_mixed", "_law_start"]
theorem sc__law_known : FnScope N__law_known ["_law_bag_here"] (defScope s__law_known) := ⟨rfl, rfl, rfl, by decide +kernel, rfl, by decide +kernel, by decide +kernel⟩
abbrev s_law : Stmt := top 53
abbrev N_law : List Str := ["_law_script", "_law_k", "_law_bag_here", "_law_turn", "_law_first", "_law_second", "_law_far", "_law_modulus", "_law_due", "_law_chains_so", "_law_at", "_law_spoiled"]
theorem sc_law : FnScope N_law ["_law_script"] (defScope s_law) := ⟨rfl, rfl, rfl, by decide +kernel, rfl, by decide +kernel, by decide +kernel⟩
/-- what the top has written -/
structure Tx (K : PySem.W.Frag) (mg : Str → Option Value) : Prop where
  f_is_integer : ∃ fd, FunD K "is_integer" "is_integer" (defArgs s_is_integer) (defBody s_is_integer) (defScope s_is_integer) [] [] (He.ga K "is_integer") fd
  g_is_integer : mg "is_integer" = some (.ref (He.ga K "is_integer"))
  f_is_bound : ∃ fd, FunD K "is_bound" "is_bound" (defArgs s_is_bound) (defBody s_is_bound) (defScope s_is_bound) [] [] (He.ga K "is_bound") fd
  g_is_bound : mg "is_bound" = some (.ref (He.ga K "is_bound"))
  f_is_step : ∃ fd, FunD K "is_step" "is_step" (defArgs s_is_step) (defBody s_is_step) (defScope s_is_step) [] [] (He.ga K "is_step") fd
  g_is_step : mg "is_step" = some (.ref (He.ga K "is_step"))
  f_is_slice : ∃ fd, FunD K "is_slice" "is_slice" (defArgs s_is_slice) (defBody s_is_slice) (defScope s_is_slice) [] [] (He.ga K "is_slice") fd
  g_is_slice : mg "is_slice" = some (.ref (He.ga K "is_slice"))
  f_is_chain : ∃ fd, FunD K "is_chain" "is_chain" (defArgs s_is_chain) (defBody s_is_chain) (defScope s_is_chain) [] [] (He.ga K "is_chain") fd
  g_is_chain : mg "is_chain" = some (.ref (He.ga K "is_chain"))
  f_require_chain : ∃ fd, FunD K "require_chain" "require_chain" (defArgs s_require_chain) (defBody s_require_chain) (defScope s_require_chain) [] [] (He.ga K "require_chain") fd
  g_require_chain : mg "require_chain" = some (.ref (He.ga K "require_chain"))
  f_moved : ∃ fd, FunD K "moved" "moved" (defArgs s_moved) (defBody s_moved) (defScope s_moved) [] [] (He.ga K "moved") fd
  g_moved : mg "moved" = some (.ref (He.ga K "moved"))
  f_ends : ∃ fd, FunD K "ends" "ends" (defArgs s_ends) (defBody s_ends) (defScope s_ends) [] [] (He.ga K "ends") fd
  g_ends : mg "ends" = some (.ref (He.ga K "ends"))
  f_applied : ∃ fd, FunD K "applied" "applied" (defArgs s_applied) (defBody s_applied) (defScope s_applied) [] [] (He.ga K "applied") fd
  g_applied : mg "applied" = some (.ref (He.ga K "applied"))
  f_shown_by : ∃ fd, FunD K "shown_by" "shown_by" (defArgs s_shown_by) (defBody s_shown_by) (defScope s_shown_by) [] [] (He.ga K "shown_by") fd
  g_shown_by : mg "shown_by" = some (.ref (He.ga K "shown_by"))
  f_threshold_of : ∃ fd, FunD K "threshold_of" "threshold_of" (defArgs s_threshold_of) (defBody s_threshold_of) (defScope s_threshold_of) [] [] (He.ga K "threshold_of") fd
  g_threshold_of : mg "threshold_of" = some (.ref (He.ga K "threshold_of"))
  f_period_of : ∃ fd, FunD K "period_of" "period_of" (defArgs s_period_of) (defBody s_period_of) (defScope s_period_of) [] [] (He.ga K "period_of") fd
  g_period_of : mg "period_of" = some (.ref (He.ga K "period_of"))
  f_common_multiple : ∃ fd, FunD K "common_multiple" "common_multiple" (defArgs s_common_multiple) (defBody s_common_multiple) (defScope s_common_multiple) [] [] (He.ga K "common_multiple") fd
  g_common_multiple : mg "common_multiple" = some (.ref (He.ga K "common_multiple"))
  f_last_threshold : ∃ fd, FunD K "last_threshold" "last_threshold" (defArgs s_last_threshold) (defBody s_last_threshold) (defScope s_last_threshold) [] [] (He.ga K "last_threshold") fd
  g_last_threshold : mg "last_threshold" = some (.ref (He.ga K "last_threshold"))
  f_both_periods : ∃ fd, FunD K "both_periods" "both_periods" (defArgs s_both_periods) (defBody s_both_periods) (defScope s_both_periods) [] [] (He.ga K "both_periods") fd
  g_both_periods : mg "both_periods" = some (.ref (He.ga K "both_periods"))
  f_bound_for : ∃ fd, FunD K "bound_for" "bound_for" (defArgs s_bound_for) (defBody s_bound_for) (defScope s_bound_for) [] [] (He.ga K "bound_for") fd
  g_bound_for : mg "bound_for" = some (.ref (He.ga K "bound_for"))
  f_require_both : ∃ fd, FunD K "require_both" "require_both" (defArgs s_require_both) (defBody s_require_both) (defScope s_require_both) [] [] (He.ga K "require_both") fd
  g_require_both : mg "require_both" = some (.ref (He.ga K "require_both"))
  f_rising : ∃ fd, FunD K "rising" "rising" (defArgs s_rising) (defBody s_rising) (defScope s_rising) [] [] (He.ga K "rising") fd
  g_rising : mg "rising" = some (.ref (He.ga K "rising"))
  f_inverse : ∃ fd, FunD K "inverse" "inverse" (defArgs s_inverse) (defBody s_inverse) (defScope s_inverse) [] [] (He.ga K "inverse") fd
  g_inverse : mg "inverse" = some (.ref (He.ga K "inverse"))
  f_meeting : ∃ fd, FunD K "meeting" "meeting" (defArgs s_meeting) (defBody s_meeting) (defScope s_meeting) [] [] (He.ga K "meeting") fd
  g_meeting : mg "meeting" = some (.ref (He.ga K "meeting"))
  f_common_at : ∃ fd, FunD K "common_at" "common_at" (defArgs s_common_at) (defBody s_common_at) (defScope s_common_at) [] [] (He.ga K "common_at") fd
  g_common_at : mg "common_at" = some (.ref (He.ga K "common_at"))
  f_are_apart : ∃ fd, FunD K "are_apart" "are_apart" (defArgs s_are_apart) (defBody s_are_apart) (defScope s_are_apart) [] [] (He.ga K "are_apart") fd
  g_are_apart : mg "are_apart" = some (.ref (He.ga K "are_apart"))
  f_are_disjoint : ∃ fd, FunD K "are_disjoint" "are_disjoint" (defArgs s_are_disjoint) (defBody s_are_disjoint) (defScope s_are_disjoint) [] [] (He.ga K "are_disjoint") fd
  g_are_disjoint : mg "are_disjoint" = some (.ref (He.ga K "are_disjoint"))
  f_require_chains : ∃ fd, FunD K "require_chains" "require_chains" (defArgs s_require_chains) (defBody s_require_chains) (defScope s_require_chains) [] [] (He.ga K "require_chains") fd
  g_require_chains : mg "require_chains" = some (.ref (He.ga K "require_chains"))
  f_are_partition : ∃ fd, FunD K "are_partition" "are_partition" (defArgs s_are_partition) (defBody s_are_partition) (defScope s_are_partition) [] [] (He.ga K "are_partition") fd
  g_are_partition : mg "are_partition" = some (.ref (He.ga K "are_partition"))
  f__law_bag : ∃ fd, FunD K "_law_bag" "_law_bag" (defArgs s__law_bag) (defBody s__law_bag) (defScope s__law_bag) [] [] (He.ga K "_law_bag") fd
  g__law_bag : mg "_law_bag" = some (.ref (He.ga K "_law_bag"))
  f__law_take : ∃ fd, FunD K "_law_take" "_law_take" (defArgs s__law_take) (defBody s__law_take) (defScope s__law_take) [] [] (He.ga K "_law_take") fd
  g__law_take : mg "_law_take" = some (.ref (He.ga K "_law_take"))
  f__law_of : ∃ fd, FunD K "_law_of" "_law_of" (defArgs s__law_of) (defBody s__law_of) (defScope s__law_of) [] [] (He.ga K "_law_of") fd
  g__law_of : mg "_law_of" = some (.ref (He.ga K "_law_of"))
  f__law_bound : ∃ fd, FunD K "_law_bound" "_law_bound" (defArgs s__law_bound) (defBody s__law_bound) (defScope s__law_bound) [] [] (He.ga K "_law_bound") fd
  g__law_bound : mg "_law_bound" = some (.ref (He.ga K "_law_bound"))
  f__law_slice : ∃ fd, FunD K "_law_slice" "_law_slice" (defArgs s__law_slice) (defBody s__law_slice) (defScope s__law_slice) [] [] (He.ga K "_law_slice") fd
  g__law_slice : mg "_law_slice" = some (.ref (He.ga K "_law_slice"))
  f__law_chain : ∃ fd, FunD K "_law_chain" "_law_chain" (defArgs s__law_chain) (defBody s__law_chain) (defScope s__law_chain) [] [] (He.ga K "_law_chain") fd
  g__law_chain : mg "_law_chain" = some (.ref (He.ga K "_law_chain"))
  f__law_part : ∃ fd, FunD K "_law_part" "_law_part" (defArgs s__law_part) (defBody s__law_part) (defScope s__law_part) [] [] (He.ga K "_law_part") fd
  g__law_part : mg "_law_part" = some (.ref (He.ga K "_law_part"))
  f__law_shown : ∃ fd, FunD K "_law_shown" "_law_shown" (defArgs s__law_shown) (defBody s__law_shown) (defScope s__law_shown) [] [] (He.ga K "_law_shown") fd
  g__law_shown : mg "_law_shown" = some (.ref (He.ga K "_law_shown"))
  f__law_weights : ∃ fd, FunD K "_law_weights" "_law_weights" (defArgs s__law_weights) (defBody s__law_weights) (defScope s__law_weights) [] [] (He.ga K "_law_weights") fd
  g__law_weights : mg "_law_weights" = some (.ref (He.ga K "_law_weights"))
  f__law_multiple : ∃ fd, FunD K "_law_multiple" "_law_multiple" (defArgs s__law_multiple) (defBody s__law_multiple) (defScope s__law_multiple) [] [] (He.ga K "_law_multiple") fd
  g__law_multiple : mg "_law_multiple" = some (.ref (He.ga K "_law_multiple"))
  f__law_limit : ∃ fd, FunD K "_law_limit" "_law_limit" (defArgs s__law_limit) (defBody s__law_limit) (defScope s__law_limit) [] [] (He.ga K "_law_limit") fd
  g__law_limit : mg "_law_limit" = some (.ref (He.ga K "_law_limit"))
  f__law_unlike : ∃ fd, FunD K "_law_unlike" "_law_unlike" (defArgs s__law_unlike) (defBody s__law_unlike) (defScope s__law_unlike) [] [] (He.ga K "_law_unlike") fd
  g__law_unlike : mg "_law_unlike" = some (.ref (He.ga K "_law_unlike"))
  f__law_places : ∃ fd, FunD K "_law_places" "_law_places" (defArgs s__law_places) (defBody s__law_places) (defScope s__law_places) [] [] (He.ga K "_law_places") fd
  g__law_places : mg "_law_places" = some (.ref (He.ga K "_law_places"))
  f__law_apart : ∃ fd, FunD K "_law_apart" "_law_apart" (defArgs s__law_apart) (defBody s__law_apart) (defScope s__law_apart) [] [] (He.ga K "_law_apart") fd
  g__law_apart : mg "_law_apart" = some (.ref (He.ga K "_law_apart"))
  f__law_shares : ∃ fd, FunD K "_law_shares" "_law_shares" (defArgs s__law_shares) (defBody s__law_shares) (defScope s__law_shares) [] [] (He.ga K "_law_shares") fd
  g__law_shares : mg "_law_shares" = some (.ref (He.ga K "_law_shares"))
  f__law_known : ∃ fd, FunD K "_law_known" "_law_known" (defArgs s__law_known) (defBody s__law_known) (defScope s__law_known) [] [] (He.ga K "_law_known") fd
  g__law_known : mg "_law_known" = some (.ref (He.ga K "_law_known"))
  f_law : ∃ fd, FunD K "law" "law" (defArgs s_law) (defBody s_law) (defScope s_law) [] [] (He.ga K "law") fd
  g_law : mg "law" = some (.ref (He.ga K "law"))
  c_BOUND : ∃ t, mg "BOUND" = some (.int 30 t)
  c_STEP : ∃ t, mg "STEP" = some (.int 3 t)
  c_SLICES : ∃ t, mg "SLICES" = some (.int 4 t)
  m_abs : mg "abs" = none
  m_all : mg "all" = none
  m_bool : mg "bool" = none
  m_enumerate : mg "enumerate" = none
  m_int : mg "int" = none
  m_isinstance : mg "isinstance" = none
  m_len : mg "len" = none
  m_list : mg "list" = none
  m_max : mg "max" = none
  m_min : mg "min" = none
  m_range : mg "range" = none
  m_sorted : mg "sorted" = none
  m_sum : mg "sum" = none
  m_tuple : mg "tuple" = none
  x_ChainError : ExcOk K mg "ChainError" (He.ga K "ChainError")
  x_InvalidChain : ExcOk K mg "InvalidChain" (He.ga K "InvalidChain")
  x_InvalidChains : ExcOk K mg "InvalidChains" (He.ga K "InvalidChains")
def fn : List He.DefD := ⟨("is_integer", none), "is_integer", "is_integer", defArgs s_is_integer, defBody s_is_integer, defScope s_is_integer, [], []⟩ :: ⟨("is_bound", none), "is_bound", "is_bound", defArgs s_is_bound, defBody s_is_bound, defScope s_is_bound, [], []⟩ :: ⟨("is_step", none), "is_step", "is_step", defArgs s_is_step, defBody s_is_step, defScope s_is_step, [], []⟩ :: ⟨("is_slice", none), "is_slice", "is_slice", defArgs s_is_slice, defBody s_is_slice, defScope s_is_slice, [], []⟩ :: ⟨("is_chain", none), "is_chain", "is_chain", defArgs s_is_chain, defBody s_is_chain, defScope s_is_chain, [], []⟩ :: ⟨("require_chain", none), "require_chain", "require_chain", defArgs s_require_chain, defBody s_require_chain, defScope s_require_chain, [], []⟩ :: ⟨("moved", none), "moved", "moved", defArgs s_moved, defBody s_moved, defScope s_moved, [], []⟩ :: ⟨("ends", none), "ends", "ends", defArgs s_ends, defBody s_ends, defScope s_ends, [], []⟩ :: ⟨("applied", none), "applied", "applied", defArgs s_applied, defBody s_applied, defScope s_applied, [], []⟩ :: ⟨("shown_by", none), "shown_by", "shown_by", defArgs s_shown_by, defBody s_shown_by, defScope s_shown_by, [], []⟩ :: ⟨("threshold_of", none), "threshold_of", "threshold_of", defArgs s_threshold_of, defBody s_threshold_of, defScope s_threshold_of, [], []⟩ :: ⟨("period_of", none), "period_of", "period_of", defArgs s_period_of, defBody s_period_of, defScope s_period_of, [], []⟩ :: ⟨("common_multiple", none), "common_multiple", "common_multiple", defArgs s_common_multiple, defBody s_common_multiple, defScope s_common_multiple, [], []⟩ :: ⟨("last_threshold", none), "last_threshold", "last_threshold", defArgs s_last_threshold, defBody s_last_threshold, defScope s_last_threshold, [], []⟩ :: ⟨("both_periods", none), "both_periods", "both_periods", defArgs s_both_periods, defBody s_both_periods, defScope s_both_periods, [], []⟩ :: ⟨("bound_for", none), "bound_for", "bound_for", defArgs s_bound_for, defBody s_bound_for, defScope s_bound_for, [], []⟩ :: ⟨("require_both", none), "require_both", "require_both", defArgs s_require_both, defBody s_require_both, defScope s_require_both, [], []⟩ :: ⟨("rising", none), "rising", "rising", defArgs s_rising, defBody s_rising, defScope s_rising, [], []⟩ :: ⟨("inverse", none), "inverse", "inverse", defArgs s_inverse, defBody s_inverse, defScope s_inverse, [], []⟩ :: ⟨("meeting", none), "meeting", "meeting", defArgs s_meeting, defBody s_meeting, defScope s_meeting, [], []⟩ :: ⟨("common_at", none), "common_at", "common_at", defArgs s_common_at, defBody s_common_at, defScope s_common_at, [], []⟩ :: ⟨("are_apart", none), "are_apart", "are_apart", defArgs s_are_apart, defBody s_are_apart, defScope s_are_apart, [], []⟩ :: ⟨("are_disjoint", none), "are_disjoint", "are_disjoint", defArgs s_are_disjoint, defBody s_are_disjoint, defScope s_are_disjoint, [], []⟩ :: ⟨("require_chains", none), "require_chains", "require_chains", defArgs s_require_chains, defBody s_require_chains, defScope s_require_chains, [], []⟩ :: ⟨("are_partition", none), "are_partition", "are_partition", defArgs s_are_partition, defBody s_are_partition, defScope s_are_partition, [], []⟩ :: ⟨("_law_bag", none), "_law_bag", "_law_bag", defArgs s__law_bag, defBody s__law_bag, defScope s__law_bag, [], []⟩ :: ⟨("_law_take", none), "_law_take", "_law_take", defArgs s__law_take, defBody s__law_take, defScope s__law_take, [], []⟩ :: ⟨("_law_of", none), "_law_of", "_law_of", defArgs s__law_of, defBody s__law_of, defScope s__law_of, [], []⟩ :: ⟨("_law_bound", none), "_law_bound", "_law_bound", defArgs s__law_bound, defBody s__law_bound, defScope s__law_bound, [], []⟩ :: ⟨("_law_slice", none), "_law_slice", "_law_slice", defArgs s__law_slice, defBody s__law_slice, defScope s__law_slice, [], []⟩ :: ⟨("_law_chain", none), "_law_chain", "_law_chain", defArgs s__law_chain, defBody s__law_chain, defScope s__law_chain, [], []⟩ :: ⟨("_law_part", none), "_law_part", "_law_part", defArgs s__law_part, defBody s__law_part, defScope s__law_part, [], []⟩ :: ⟨("_law_shown", none), "_law_shown", "_law_shown", defArgs s__law_shown, defBody s__law_shown, defScope s__law_shown, [], []⟩ :: ⟨("_law_weights", none), "_law_weights", "_law_weights", defArgs s__law_weights, defBody s__law_weights, defScope s__law_weights, [], []⟩ :: ⟨("_law_multiple", none), "_law_multiple", "_law_multiple", defArgs s__law_multiple, defBody s__law_multiple, defScope s__law_multiple, [], []⟩ :: ⟨("_law_limit", none), "_law_limit", "_law_limit", defArgs s__law_limit, defBody s__law_limit, defScope s__law_limit, [], []⟩ :: ⟨("_law_unlike", none), "_law_unlike", "_law_unlike", defArgs s__law_unlike, defBody s__law_unlike, defScope s__law_unlike, [], []⟩ :: ⟨("_law_places", none), "_law_places", "_law_places", defArgs s__law_places, defBody s__law_places, defScope s__law_places, [], []⟩ :: ⟨("_law_apart", none), "_law_apart", "_law_apart", defArgs s__law_apart, defBody s__law_apart, defScope s__law_apart, [], []⟩ :: ⟨("_law_shares", none), "_law_shares", "_law_shares", defArgs s__law_shares, defBody s__law_shares, defScope s__law_shares, [], []⟩ :: ⟨("_law_known", none), "_law_known", "_law_known", defArgs s__law_known, defBody s__law_known, defScope s__law_known, [], []⟩ :: ⟨("law", none), "law", "law", defArgs s_law, defBody s_law, defScope s_law, [], []⟩ :: []
def fa : List He.Fa := .glo "is_integer" :: .glo "is_bound" :: .glo "is_step" :: .glo "is_slice" :: .glo "is_chain" :: .glo "require_chain" :: .glo "moved" :: .glo "ends" :: .glo "applied" :: .glo "shown_by" :: .glo "threshold_of" :: .glo "period_of" :: .glo "common_multiple" :: .glo "last_threshold" :: .glo "both_periods" :: .glo "bound_for" :: .glo "require_both" :: .glo "rising" :: .glo "inverse" :: .glo "meeting" :: .glo "common_at" :: .glo "are_apart" :: .glo "are_disjoint" :: .glo "require_chains" :: .glo "are_partition" :: .glo "_law_bag" :: .glo "_law_take" :: .glo "_law_of" :: .glo "_law_bound" :: .glo "_law_slice" :: .glo "_law_chain" :: .glo "_law_part" :: .glo "_law_shown" :: .glo "_law_weights" :: .glo "_law_multiple" :: .glo "_law_limit" :: .glo "_law_unlike" :: .glo "_law_places" :: .glo "_law_apart" :: .glo "_law_shares" :: .glo "_law_known" :: .glo "law" :: .int "BOUND" 30 :: .int "STEP" 3 :: .int "SLICES" 4 :: .free "abs" :: .free "all" :: .free "bool" :: .free "enumerate" :: .free "int" :: .free "isinstance" :: .free "len" :: .free "list" :: .free "max" :: .free "min" :: .free "range" :: .free "sorted" :: .free "sum" :: .free "tuple" :: .glo "ChainError" :: .exc "ChainError" :: .glo "InvalidChain" :: .exc "InvalidChain" :: .glo "InvalidChains" :: .exc "InvalidChains" :: []
theorem env_of {K : PySem.W.Frag} {h : Heap} {mg : Str → Option Value} (X : K.In h) (G : h.Ns mainGlobals mg) (c : He.SaysD fa fn K) : Tx K mg where
  f_is_integer := c.def_ 0 rfl
  g_is_integer := He.glo_ok X G (c.fact 0 rfl)
  f_is_bound := c.def_ 1 rfl
  g_is_bound := He.glo_ok X G (c.fact 1 rfl)
  f_is_step := c.def_ 2 rfl
  g_is_step := He.glo_ok X G (c.fact 2 rfl)
  f_is_slice := c.def_ 3 rfl
  g_is_slice := He.glo_ok X G (c.fact 3 rfl)
  f_is_chain := c.def_ 4 rfl
  g_is_chain := He.glo_ok X G (c.fact 4 rfl)
  f_require_chain := c.def_ 5 rfl
  g_require_chain := He.glo_ok X G (c.fact 5 rfl)
  f_moved := c.def_ 6 rfl
  g_moved := He.glo_ok X G (c.fact 6 rfl)
  f_ends := c.def_ 7 rfl
  g_ends := He.glo_ok X G (c.fact 7 rfl)
  f_applied := c.def_ 8 rfl
  g_applied := He.glo_ok X G (c.fact 8 rfl)
  f_shown_by := c.def_ 9 rfl
  g_shown_by := He.glo_ok X G (c.fact 9 rfl)
  f_threshold_of := c.def_ 10 rfl
  g_threshold_of := He.glo_ok X G (c.fact 10 rfl)
  f_period_of := c.def_ 11 rfl
  g_period_of := He.glo_ok X G (c.fact 11 rfl)
  f_common_multiple := c.def_ 12 rfl
  g_common_multiple := He.glo_ok X G (c.fact 12 rfl)
  f_last_threshold := c.def_ 13 rfl
  g_last_threshold := He.glo_ok X G (c.fact 13 rfl)
  f_both_periods := c.def_ 14 rfl
  g_both_periods := He.glo_ok X G (c.fact 14 rfl)
  f_bound_for := c.def_ 15 rfl
  g_bound_for := He.glo_ok X G (c.fact 15 rfl)
  f_require_both := c.def_ 16 rfl
  g_require_both := He.glo_ok X G (c.fact 16 rfl)
  f_rising := c.def_ 17 rfl
  g_rising := He.glo_ok X G (c.fact 17 rfl)
  f_inverse := c.def_ 18 rfl
  g_inverse := He.glo_ok X G (c.fact 18 rfl)
  f_meeting := c.def_ 19 rfl
  g_meeting := He.glo_ok X G (c.fact 19 rfl)
  f_common_at := c.def_ 20 rfl
  g_common_at := He.glo_ok X G (c.fact 20 rfl)
  f_are_apart := c.def_ 21 rfl
  g_are_apart := He.glo_ok X G (c.fact 21 rfl)
  f_are_disjoint := c.def_ 22 rfl
  g_are_disjoint := He.glo_ok X G (c.fact 22 rfl)
  f_require_chains := c.def_ 23 rfl
  g_require_chains := He.glo_ok X G (c.fact 23 rfl)
  f_are_partition := c.def_ 24 rfl
  g_are_partition := He.glo_ok X G (c.fact 24 rfl)
  f__law_bag := c.def_ 25 rfl
  g__law_bag := He.glo_ok X G (c.fact 25 rfl)
  f__law_take := c.def_ 26 rfl
  g__law_take := He.glo_ok X G (c.fact 26 rfl)
  f__law_of := c.def_ 27 rfl
  g__law_of := He.glo_ok X G (c.fact 27 rfl)
  f__law_bound := c.def_ 28 rfl
  g__law_bound := He.glo_ok X G (c.fact 28 rfl)
  f__law_slice := c.def_ 29 rfl
  g__law_slice := He.glo_ok X G (c.fact 29 rfl)
  f__law_chain := c.def_ 30 rfl
  g__law_chain := He.glo_ok X G (c.fact 30 rfl)
  f__law_part := c.def_ 31 rfl
  g__law_part := He.glo_ok X G (c.fact 31 rfl)
  f__law_shown := c.def_ 32 rfl
  g__law_shown := He.glo_ok X G (c.fact 32 rfl)
  f__law_weights := c.def_ 33 rfl
  g__law_weights := He.glo_ok X G (c.fact 33 rfl)
  f__law_multiple := c.def_ 34 rfl
  g__law_multiple := He.glo_ok X G (c.fact 34 rfl)
  f__law_limit := c.def_ 35 rfl
  g__law_limit := He.glo_ok X G (c.fact 35 rfl)
  f__law_unlike := c.def_ 36 rfl
  g__law_unlike := He.glo_ok X G (c.fact 36 rfl)
  f__law_places := c.def_ 37 rfl
  g__law_places := He.glo_ok X G (c.fact 37 rfl)
  f__law_apart := c.def_ 38 rfl
  g__law_apart := He.glo_ok X G (c.fact 38 rfl)
  f__law_shares := c.def_ 39 rfl
  g__law_shares := He.glo_ok X G (c.fact 39 rfl)
  f__law_known := c.def_ 40 rfl
  g__law_known := He.glo_ok X G (c.fact 40 rfl)
  f_law := c.def_ 41 rfl
  g_law := He.glo_ok X G (c.fact 41 rfl)
  c_BOUND := He.int_ok X G (c.fact 42 rfl)
  c_STEP := He.int_ok X G (c.fact 43 rfl)
  c_SLICES := He.int_ok X G (c.fact 44 rfl)
  m_abs := He.free_ok X G (c.fact 45 rfl)
  m_all := He.free_ok X G (c.fact 46 rfl)
  m_bool := He.free_ok X G (c.fact 47 rfl)
  m_enumerate := He.free_ok X G (c.fact 48 rfl)
  m_int := He.free_ok X G (c.fact 49 rfl)
  m_isinstance := He.free_ok X G (c.fact 50 rfl)
  m_len := He.free_ok X G (c.fact 51 rfl)
  m_list := He.free_ok X G (c.fact 52 rfl)
  m_max := He.free_ok X G (c.fact 53 rfl)
  m_min := He.free_ok X G (c.fact 54 rfl)
  m_range := He.free_ok X G (c.fact 55 rfl)
  m_sorted := He.free_ok X G (c.fact 56 rfl)
  m_sum := He.free_ok X G (c.fact 57 rfl)
  m_tuple := He.free_ok X G (c.fact 58 rfl)
  x_ChainError := by
    have z := He.exc_ok (c.fact 60 (f := .exc "ChainError") rfl)
    exact ⟨He.glo_ok X G (c.fact 59 (f := .glo "ChainError") rfl), z.1, z.2.1, z.2.2.1, z.2.2.2⟩
  x_InvalidChain := by
    have z := He.exc_ok (c.fact 62 (f := .exc "InvalidChain") rfl)
    exact ⟨He.glo_ok X G (c.fact 61 (f := .glo "InvalidChain") rfl), z.1, z.2.1, z.2.2.1, z.2.2.2⟩
  x_InvalidChains := by
    have z := He.exc_ok (c.fact 64 (f := .exc "InvalidChains") rfl)
    exact ⟨He.glo_ok X G (c.fact 63 (f := .glo "InvalidChains") rfl), z.1, z.2.1, z.2.2.1, z.2.2.2⟩
section
variable {P : Program} {w : World} {K : PySem.W.Frag} {mg : Str → Option Value} {base : Heap}
theorem ok_is_integer (T : Tx K mg) : Has P w K mg base 1 "is_integer" ["value", "low", "high"] sp_is_integer := by
  obtain ⟨fd, F⟩ := T.f_is_integer
  have sc := sc_is_integer
  refine Has.mk (N := N_is_integer) F sc T.g_is_integer (FunD.bindsN F fun _ _ _ _ _ _ us hl => match us, hl with | [_, _, _], _ => rfl) psp.mono (psp.len fun _ => rfl) pure_is_integer (fun cdv A outer s H E hr => ?_)
  have hu := hr.units
  have tk : Takes (cxOf (L2.CX P w) P w K mg base N_is_integer "is_integer" (defScope s_is_integer) (He.ga K "is_integer") cdv A outer s H E) (fun cls d _ H => E cls d H) := takes_of rfl rfl rfl rfl
  exact (b_one (s_ret (e_and (e_isi (ev 0) T.m_isinstance T.m_int boot_int) (e_and (e_not (e_isi (ev 0) T.m_isinstance T.m_bool boot_bool)) (e_one (e_chain o_le o_le (ev 1) (ev 0) (ev 2)))))))
theorem ok_moved (T : Tx K mg) : Has P w K mg base 1 "moved" ["bound", "count", "low", "high"] sp_moved := by
  obtain ⟨fd, F⟩ := T.f_moved
  have sc := sc_moved
  refine Has.mk (N := N_moved) F sc T.g_moved (FunD.bindsN F fun _ _ _ _ _ _ us hl => match us, hl with | [_, _, _, _], _ => rfl) psp.mono (psp.len fun _ => rfl) pure_moved (fun cdv A outer s H E hr => ?_)
  have hu := hr.units
  have tk : Takes (cxOf (L2.CX P w) P w K mg base N_moved "moved" (defScope s_moved) (He.ga K "moved") cdv A outer s H E) (fun cls d _ H => E cls d H) := takes_of rfl rfl rfl rfl
  exact (b_cons (s_set 4 sc.nd (e_if (t_cmp o_lt (ev 0) e_int) (e_op o_add (ev 0) (ev 1)) (ev 0)))
      (b_one (s_ret (e_callB (c_max2 rfl) T.m_max boot_max (a_cons (ev 2) (a_cons (e_callB (c_min2 rfl) T.m_min boot_min (a_cons (ev 3) (a_cons (ev 4) a_nil))) a_nil))))))
theorem ok_threshold_of (T : Tx K mg) : Has P w K mg base 1 "threshold_of" ["chain"] sp_threshold_of := by
  obtain ⟨fd, F⟩ := T.f_threshold_of
  have sc := sc_threshold_of
  refine Has.mk (N := N_threshold_of) F sc T.g_threshold_of (FunD.bindsN F fun _ _ _ _ _ _ us hl => match us, hl with | [_], _ => rfl) psp.mono (psp.len fun _ => rfl) pure_threshold_of (fun cdv A outer s H E hr => ?_)
  have hu := hr.units
  have tk : Takes (cxOf (L2.CX P w) P w K mg base N_threshold_of "threshold_of" (defScope s_threshold_of) (He.ga K "threshold_of") cdv A outer s H E) (fun cls d _ H => E cls d H) := takes_of rfl rfl rfl rfl
  exact (b_cons (s_asg (e_tup (a_cons e_int (a_cons e_int a_nil))) (g_tup rfl (gs_cons (g_name 1 sc.nd) (gs_cons (g_name 2 sc.nd) gs_nil))))
      (b_cons (s_for (passes_of rfl) rfl (j_tup (ev 0)) (g_tup rfl (gs_cons (g_name 3 sc.nd) (gs_cons (g_name 4 sc.nd) (gs_cons (g_name 5 sc.nd) gs_nil)))) (b_cons (s_aug 1 sc.nd o_iadd (e_op o_mul (ev 2) (e_op o_add (e_op o_add e_int (e_callB c_abs T.m_abs boot_abs (a_cons (e_orT (ev 3) (e_one e_int)) a_nil))) (e_callB c_abs T.m_abs boot_abs (a_cons (e_orT (ev 4) (e_one e_int)) a_nil)))))
      (b_one (s_aug 2 sc.nd o_imul (e_callB c_abs T.m_abs boot_abs (a_cons (ev 5) a_nil))))))
      (b_one (s_ret (ev 1)))))
theorem ok_period_of (T : Tx K mg) : Has P w K mg base 1 "period_of" ["chain"] sp_period_of := by
  obtain ⟨fd, F⟩ := T.f_period_of
  have sc := sc_period_of
  refine Has.mk (N := N_period_of) F sc T.g_period_of (FunD.bindsN F fun _ _ _ _ _ _ us hl => match us, hl with | [_], _ => rfl) psp.mono (psp.len fun _ => rfl) pure_period_of (fun cdv A outer s H E hr => ?_)
  have hu := hr.units
  have tk : Takes (cxOf (L2.CX P w) P w K mg base N_period_of "period_of" (defScope s_period_of) (He.ga K "period_of") cdv A outer s H E) (fun cls d _ H => E cls d H) := takes_of rfl rfl rfl rfl
  exact (b_cons (s_set 1 sc.nd e_int)
      (b_cons (s_for (passes_of rfl) rfl (j_tup (ev 0)) (g_tup rfl (gs_cons (g_name 2 sc.nd) (gs_cons (g_name 3 sc.nd) (gs_cons (g_name 4 sc.nd) gs_nil)))) (b_one (s_aug 1 sc.nd o_imul (e_callB c_abs T.m_abs boot_abs (a_cons (ev 4) a_nil)))))
      (b_one (s_ret (ev 1)))))
theorem ok_common_multiple (T : Tx K mg) : Has P w K mg base 1 "common_multiple" ["one", "other"] sp_common_multiple := by
  obtain ⟨fd, F⟩ := T.f_common_multiple
  have sc := sc_common_multiple
  refine Has.mk (N := N_common_multiple) F sc T.g_common_multiple (FunD.bindsN F fun _ _ _ _ _ _ us hl => match us, hl with | [_, _], _ => rfl) psp.mono (psp.len fun _ => rfl) pure_common_multiple (fun cdv A outer s H E hr => ?_)
  have hu := hr.units
  have tk : Takes (cxOf (L2.CX P w) P w K mg base N_common_multiple "common_multiple" (defScope s_common_multiple) (He.ga K "common_multiple") cdv A outer s H E) (fun cls d _ H => E cls d H) := takes_of rfl rfl rfl rfl
  exact (b_cons (s_par 2 3 rfl sc.nd (a_cons (ev 0) (a_cons (ev 1) a_nil)))
      (b_cons (s_while (passes_of rfl) (t_tru (ev 3)) (b_one (s_par 2 3 rfl sc.nd (a_cons (ev 3) (a_cons (e_op o_mod (ev 2) (ev 3)) a_nil)))))
      (b_one (s_ret (e_op o_fdiv (e_op o_mul (ev 0) (ev 1)) (ev 2))))))
theorem ok_rising (T : Tx K mg) : Has P w K mg base 1 "rising" ["shown"] sp_rising := by
  obtain ⟨fd, F⟩ := T.f_rising
  have sc := sc_rising
  refine Has.mk (N := N_rising) F sc T.g_rising (FunD.bindsN F fun _ _ _ _ _ _ us hl => match us, hl with | [_], _ => rfl) psp.mono (psp.len fun _ => rfl) pure_rising (fun cdv A outer s H E hr => ?_)
  have hu := hr.units
  have tk : Takes (cxOf (L2.CX P w) P w K mg base N_rising "rising" (defScope s_rising) (He.ga K "rising") cdv A outer s H E) (fun cls d _ H => E cls d H) := takes_of rfl rfl rfl rfl
  exact (b_cons (s_asg (ev 0) (g_tup rfl (gs_cons (g_name 1 sc.nd) (gs_cons (g_name 2 sc.nd) (gs_cons (g_name 3 sc.nd) gs_nil)))))
      (b_cons (s_if (t_cmp o_lt (ev 3) e_int) (b_one (s_ret (e_tup (a_cons (ev 1) (a_cons e_int (a_cons (ev 3) a_nil)))))) b_nil)
      (b_one (s_ret (e_if (t_cmp o_gt (ev 2) e_int) (e_tup (a_cons (ev 1) (a_cons (ev 2) (a_cons (ev 3) a_nil)))) (e_tup (a_cons (e_op o_add (ev 1) (e_op o_mul (ev 2) (e_op o_sub (ev 3) e_int))) (a_cons (e_op o_sub e_int (ev 2)) (a_cons (ev 3) a_nil)))))))))
theorem ok_inverse (T : Tx K mg) : Has P w K mg base 1 "inverse" ["number", "modulus"] sp_inverse := by
  obtain ⟨fd, F⟩ := T.f_inverse
  have sc := sc_inverse
  refine Has.mk (N := N_inverse) F sc T.g_inverse (FunD.bindsN F fun _ _ _ _ _ _ us hl => match us, hl with | [_, _], _ => rfl) rsp.mono (rsp.len fun _ => rfl) pure_inverse (fun cdv A outer s H E hr => ?_)
  have hu := hr.units
  have tk : Takes (cxOf (L2.CX P w) P w K mg base N_inverse "inverse" (defScope s_inverse) (He.ga K "inverse") cdv A outer s H E) (fun cls d _ H => E cls d H) := takes_of rfl rfl rfl rfl
  exact (b_cons (s_asg (e_tup (a_cons (e_op o_mod (ev 0) (ev 1)) (a_cons (ev 1) (a_cons e_int (a_cons e_int a_nil))))) (g_tup rfl (gs_cons (g_name 2 sc.nd) (gs_cons (g_name 3 sc.nd) (gs_cons (g_name 4 sc.nd) (gs_cons (g_name 5 sc.nd) gs_nil))))))
      (b_cons (s_while (passes_of rfl) (t_tru (ev 3)) (b_cons (s_set 6 sc.nd (e_op o_fdiv (ev 2) (ev 3)))
      (b_cons (s_par 2 3 rfl sc.nd (a_cons (ev 3) (a_cons (e_op o_sub (ev 2) (e_op o_mul (ev 6) (ev 3))) a_nil)))
      (b_one (s_par 4 5 rfl sc.nd (a_cons (ev 5) (a_cons (e_op o_sub (ev 4) (e_op o_mul (ev 6) (ev 5))) a_nil)))))))
      (b_one (s_ret (e_op o_mod (ev 4) (ev 1))))))
theorem ok__law_bag (T : Tx K mg) : Has P w K mg base 1 "_law_bag" ["_law_script", "_law_k"] sp__law_bag := by
  obtain ⟨fd, F⟩ := T.f__law_bag
  have sc := sc__law_bag
  refine Has.mk (N := N__law_bag) F sc T.g__law_bag (FunD.bindsN F fun _ _ _ _ _ _ us hl => match us, hl with | [_, _], _ => rfl) bag_mono bag_len pure__law_bag (fun cdv A outer s H E hr => ?_)
  have hu := hr.units
  have tk : Takes (cxOf (L2.CX P w) P w K mg base N__law_bag "_law_bag" (defScope s__law_bag) (He.ga K "_law_bag") cdv A outer s H E) (fun cls d _ H => E cls d H) := takes_of rfl rfl rfl rfl
  exact (b_cons (s_set 2 sc.nd e_int)
      (b_cons (s_if (t_cmp o_lt (ev 1) (e_callB c_len T.m_len boot_len (a_cons (ev 0) a_nil))) (b_one (s_set 2 sc.nd (e_op o_mod (e_ix i_seq (ev 0) (ev 1)) (e_op o_pow e_int e_int)))) b_nil)
      (b_cons (s_set 3 sc.nd (e_op o_add e_int (e_op o_mod (e_op o_add (e_op o_add (e_op o_add (e_op o_mul (e_op o_mod (ev 2) e_int) e_int) (e_op o_mul (e_op o_mul e_int (ev 1)) (ev 1))) (e_op o_mul e_int (ev 1))) e_int) e_int)))
      (b_cons (s_if (t_cmp o_lt (ev 2) (e_op o_pow e_int e_int)) (b_one (s_ret (e_lst (a_cons e_int (a_cons (ev 3) a_nil))))) b_nil)
      (b_one (s_ret (e_lst (a_cons (ev 2) (a_cons (ev 3) a_nil)))))))))
theorem ok__law_take (T : Tx K mg) : Has P w K mg base 1 "_law_take" ["_law_bag_here", "_law_count"] sp__law_take := by
  obtain ⟨fd, F⟩ := T.f__law_take
  have sc := sc__law_take
  refine Has.mk (N := N__law_take) F sc T.g__law_take (FunD.bindsN F fun _ _ _ _ _ _ us hl => match us, hl with | [_, _], _ => rfl) bsp.mono (bsp.len fun _ => rfl) pure__law_take (fun cdv A outer s H E hr => ?_)
  have hu := hr.units
  have tk : Takes (cxOf (L2.CX P w) P w K mg base N__law_take "_law_take" (defScope s__law_take) (He.ga K "_law_take") cdv A outer s H E) (fun cls d _ H => E cls d H) := takes_of rfl rfl rfl rfl
  exact (b_cons (s_if (t_cmp o_gt (e_ix i_seq (ev 0) e_int) e_int) (b_cons (s_set 2 sc.nd (e_op o_mod (e_ix i_seq (ev 0) e_int) (ev 1)))
      (b_cons (s_store (e_op o_fdiv (e_ix i_seq (ev 0) e_int) (ev 1)) (ev 0) e_int)
      (b_one (s_ret (ev 2))))) b_nil)
      (b_cons (s_store (e_op o_mod (e_op o_mul (e_ix i_seq (ev 0) e_int) e_int) e_int) (ev 0) e_int)
      (b_one (s_ret (e_op o_mod (e_op o_fdiv (e_op o_mod (e_op o_mul (e_op o_fdiv (e_ix i_seq (ev 0) e_int) e_int) (e_op o_add (e_op o_mod (e_ix i_seq (ev 0) e_int) e_int) e_int)) e_int) e_int) (ev 1))))))
theorem ok__law_part (T : Tx K mg) : Has P w K mg base 1 "_law_part" ["_law_one", "_law_c"] sp__law_part := by
  obtain ⟨fd, F⟩ := T.f__law_part
  have sc := sc__law_part
  refine Has.mk (N := N__law_part) F sc T.g__law_part (FunD.bindsN F fun _ _ _ _ _ _ us hl => match us, hl with | [_, _], _ => rfl) psp.mono (psp.len fun _ => rfl) pure__law_part (fun cdv A outer s H E hr => ?_)
  have hu := hr.units
  have tk : Takes (cxOf (L2.CX P w) P w K mg base N__law_part "_law_part" (defScope s__law_part) (He.ga K "_law_part") cdv A outer s H E) (fun cls d _ H => E cls d H) := takes_of rfl rfl rfl rfl
  exact (b_cons (s_asg (ev 0) (g_tup rfl (gs_cons (g_name 2 sc.nd) (gs_cons (g_name 3 sc.nd) (gs_cons (g_name 4 sc.nd) gs_nil)))))
      (b_cons (s_if (t_cmp o_gt (ev 4) e_int) (b_cons (s_set 5 sc.nd (e_if (t_cmp o_isN (ev 2) e_non) e_int (e_if (t_cmp o_lt (ev 2) e_int) (e_callB (c_max2 rfl) T.m_max boot_max (a_cons e_int (a_cons (e_op o_add (ev 2) (ev 1)) a_nil))) (e_callB (c_min2 rfl) T.m_min boot_min (a_cons (ev 2) (a_cons (ev 1) a_nil))))))
      (b_cons (s_set 6 sc.nd (e_if (t_cmp o_isN (ev 3) e_non) (ev 1) (e_if (t_cmp o_lt (ev 3) e_int) (e_callB (c_max2 rfl) T.m_max boot_max (a_cons e_int (a_cons (e_op o_add (ev 3) (ev 1)) a_nil))) (e_callB (c_min2 rfl) T.m_min boot_min (a_cons (ev 3) (a_cons (ev 1) a_nil))))))
      (b_one (s_ret (e_tup (a_cons (ev 5) (a_cons (e_op o_fdiv (e_op o_sub (e_op o_add (e_callB (c_max2 rfl) T.m_max boot_max (a_cons e_int (a_cons (e_op o_sub (ev 6) (ev 5)) a_nil))) (ev 4)) e_int) (ev 4)) a_nil))))))) b_nil)
      (b_cons (s_set 5 sc.nd (e_if (t_cmp o_isN (ev 2) e_non) (e_op o_sub (ev 1) e_int) (e_if (t_cmp o_lt (ev 2) e_int) (e_callB (c_max2 rfl) T.m_max boot_max (a_cons (e_un u_neg e_int) (a_cons (e_op o_add (ev 2) (ev 1)) a_nil))) (e_callB (c_min2 rfl) T.m_min boot_min (a_cons (ev 2) (a_cons (e_op o_sub (ev 1) e_int) a_nil))))))
      (b_cons (s_set 6 sc.nd (e_if (t_cmp o_isN (ev 3) e_non) (e_un u_neg e_int) (e_if (t_cmp o_lt (ev 3) e_int) (e_callB (c_max2 rfl) T.m_max boot_max (a_cons (e_un u_neg e_int) (a_cons (e_op o_add (ev 3) (ev 1)) a_nil))) (e_callB (c_min2 rfl) T.m_min boot_min (a_cons (ev 3) (a_cons (e_op o_sub (ev 1) e_int) a_nil))))))
      (b_one (s_ret (e_tup (a_cons (ev 5) (a_cons (e_op o_fdiv (e_op o_sub (e_op o_add (e_callB (c_max2 rfl) T.m_max boot_max (a_cons e_int (a_cons (e_op o_sub (ev 5) (ev 6)) a_nil))) (e_callB c_abs T.m_abs boot_abs (a_cons (ev 4) a_nil))) e_int) (e_callB c_abs T.m_abs boot_abs (a_cons (ev 4) a_nil))) a_nil)))))))))
theorem ok__law_weights (T : Tx K mg) : Has P w K mg base 1 "_law_weights" ["_law_chain_here"] sp__law_weights := by
  obtain ⟨fd, F⟩ := T.f__law_weights
  have sc := sc__law_weights
  refine Has.mk (N := N__law_weights) F sc T.g__law_weights (FunD.bindsN F fun _ _ _ _ _ _ us hl => match us, hl with | [_], _ => rfl) psp.mono (psp.len fun _ => rfl) pure__law_weights (fun cdv A outer s H E hr => ?_)
  have hu := hr.units
  have tk : Takes (cxOf (L2.CX P w) P w K mg base N__law_weights "_law_weights" (defScope s__law_weights) (He.ga K "_law_weights") cdv A outer s H E) (fun cls d _ H => E cls d H) := takes_of rfl rfl rfl rfl
  exact (b_cons (s_asg (e_tup (a_cons e_int (a_cons e_int a_nil))) (g_tup rfl (gs_cons (g_name 1 sc.nd) (gs_cons (g_name 2 sc.nd) gs_nil))))
      (b_cons (s_for (passes_of rfl) rfl (j_tup (ev 0)) (g_tup rfl (gs_cons (g_name 3 sc.nd) (gs_cons (g_name 4 sc.nd) (gs_cons (g_name 5 sc.nd) gs_nil)))) (b_cons (s_set 1 sc.nd (e_op o_add (ev 1) (e_op o_mul (ev 2) (e_op o_add (e_op o_add e_int (e_callB c_abs T.m_abs boot_abs (a_cons (e_orT (ev 3) (e_one e_int)) a_nil))) (e_callB c_abs T.m_abs boot_abs (a_cons (e_orT (ev 4) (e_one e_int)) a_nil))))))
      (b_one (s_set 2 sc.nd (e_op o_mul (ev 2) (e_callB c_abs T.m_abs boot_abs (a_cons (ev 5) a_nil)))))))
      (b_one (s_ret (e_tup (a_cons (ev 1) (a_cons (ev 2) a_nil)))))))
theorem ok__law_multiple (T : Tx K mg) : Has P w K mg base 1 "_law_multiple" ["_law_one", "_law_other"] sp__law_multiple := by
  obtain ⟨fd, F⟩ := T.f__law_multiple
  have sc := sc__law_multiple
  refine Has.mk (N := N__law_multiple) F sc T.g__law_multiple (FunD.bindsN F fun _ _ _ _ _ _ us hl => match us, hl with | [_, _], _ => rfl) psp.mono (psp.len fun _ => rfl) pure__law_multiple (fun cdv A outer s H E hr => ?_)
  have hu := hr.units
  have tk : Takes (cxOf (L2.CX P w) P w K mg base N__law_multiple "_law_multiple" (defScope s__law_multiple) (He.ga K "_law_multiple") cdv A outer s H E) (fun cls d _ H => E cls d H) := takes_of rfl rfl rfl rfl
  exact (b_cons (s_set 2 sc.nd (ev 0))
      (b_cons (s_while (passes_of rfl) (t_cmp o_ne (e_op o_mod (ev 2) (ev 1)) e_int) (b_one (s_set 2 sc.nd (e_op o_add (ev 2) (ev 0)))))
      (b_one (s_ret (ev 2)))))
theorem ok_is_bound (T : Tx K mg) : Has P w K mg base 2 "is_bound" ["value"] sp_is_bound := by
  obtain ⟨fd, F⟩ := T.f_is_bound
  have h_is_integer : Has P w K mg base 1 "is_integer" ["value", "low", "high"] sp_is_integer := ok_is_integer T
  have sc := sc_is_bound
  refine Has.mk (N := N_is_bound) F sc T.g_is_bound (FunD.bindsN F fun _ _ _ _ _ _ us hl => match us, hl with | [_], _ => rfl) psp.mono (psp.len fun _ => rfl) pure_is_bound (fun cdv A outer s H E hr => ?_)
  have hu := hr.units
  have tk : Takes (cxOf (L2.CX P w) P w K mg base N_is_bound "is_bound" (defScope s_is_bound) (He.ga K "is_bound") cdv A outer s H E) (fun cls d _ H => E cls d H) := takes_of rfl rfl rfl rfl
  exact (b_one (s_ret (e_or (e_cmp o_isN (ev 0) e_non) (e_one (e_call h_is_integer (hr.mono (by decide)) tk (a_cons (ev 0) (a_cons (e_op o_sub e_int (e_globI T.c_BOUND)) (a_cons (e_globI T.c_BOUND) a_nil))))))))
theorem ok_is_step (T : Tx K mg) : Has P w K mg base 2 "is_step" ["value"] sp_is_step := by
  obtain ⟨fd, F⟩ := T.f_is_step
  have h_is_integer : Has P w K mg base 1 "is_integer" ["value", "low", "high"] sp_is_integer := ok_is_integer T
  have sc := sc_is_step
  refine Has.mk (N := N_is_step) F sc T.g_is_step (FunD.bindsN F fun _ _ _ _ _ _ us hl => match us, hl with | [_], _ => rfl) psp.mono (psp.len fun _ => rfl) pure_is_step (fun cdv A outer s H E hr => ?_)
  have hu := hr.units
  have tk : Takes (cxOf (L2.CX P w) P w K mg base N_is_step "is_step" (defScope s_is_step) (He.ga K "is_step") cdv A outer s H E) (fun cls d _ H => E cls d H) := takes_of rfl rfl rfl rfl
  exact (b_one (s_ret (e_and (e_call h_is_integer (hr.mono (by decide)) tk (a_cons (ev 0) (a_cons (e_op o_sub e_int (e_globI T.c_STEP)) (a_cons (e_globI T.c_STEP) a_nil)))) (e_one (e_cmp o_ne (ev 0) e_int)))))
theorem ok_ends (T : Tx K mg) : Has P w K mg base 2 "ends" ["one", "count"] sp_ends := by
  obtain ⟨fd, F⟩ := T.f_ends
  have h_moved : Has P w K mg base 1 "moved" ["bound", "count", "low", "high"] sp_moved := ok_moved T
  have sc := sc_ends
  refine Has.mk (N := N_ends) F sc T.g_ends (FunD.bindsN F fun _ _ _ _ _ _ us hl => match us, hl with | [_, _], _ => rfl) psp.mono (psp.len fun _ => rfl) pure_ends (fun cdv A outer s H E hr => ?_)
  have hu := hr.units
  have tk : Takes (cxOf (L2.CX P w) P w K mg base N_ends "ends" (defScope s_ends) (He.ga K "ends") cdv A outer s H E) (fun cls d _ H => E cls d H) := takes_of rfl rfl rfl rfl
  exact (b_cons (s_asg (ev 0) (g_tup rfl (gs_cons (g_name 2 sc.nd) (gs_cons (g_name 3 sc.nd) (gs_cons (g_name 4 sc.nd) gs_nil)))))
      (b_cons (s_if (t_cmp o_gt (ev 4) e_int) (b_cons (s_set 5 sc.nd (e_if (t_cmp o_isN (ev 2) e_non) e_int (e_call h_moved (hr.mono (by decide)) tk (a_cons (ev 2) (a_cons (ev 1) (a_cons e_int (a_cons (ev 1) a_nil)))))))
      (b_one (s_ret (e_tup (a_cons (ev 5) (a_cons (e_if (t_cmp o_isN (ev 3) e_non) (ev 1) (e_call h_moved (hr.mono (by decide)) tk (a_cons (ev 3) (a_cons (ev 1) (a_cons e_int (a_cons (ev 1) a_nil)))))) a_nil)))))) b_nil)
      (b_cons (s_set 5 sc.nd (e_if (t_cmp o_isN (ev 2) e_non) (e_op o_sub (ev 1) e_int) (e_call h_moved (hr.mono (by decide)) tk (a_cons (ev 2) (a_cons (ev 1) (a_cons (e_op o_sub e_int e_int) (a_cons (e_op o_sub (ev 1) e_int) a_nil)))))))
      (b_one (s_ret (e_tup (a_cons (ev 5) (a_cons (e_if (t_cmp o_isN (ev 3) e_non) (e_op o_sub e_int e_int) (e_call h_moved (hr.mono (by decide)) tk (a_cons (ev 3) (a_cons (ev 1) (a_cons (e_op o_sub e_int e_int) (a_cons (e_op o_sub (ev 1) e_int) a_nil)))))) a_nil))))))))
theorem ok_last_threshold (T : Tx K mg) : Has P w K mg base 2 "last_threshold" ["first", "second"] sp_last_threshold := by
  obtain ⟨fd, F⟩ := T.f_last_threshold
  have h_threshold_of : Has P w K mg base 1 "threshold_of" ["chain"] sp_threshold_of := ok_threshold_of T
  have sc := sc_last_threshold
  refine Has.mk (N := N_last_threshold) F sc T.g_last_threshold (FunD.bindsN F fun _ _ _ _ _ _ us hl => match us, hl with | [_, _], _ => rfl) psp.mono (psp.len fun _ => rfl) pure_last_threshold (fun cdv A outer s H E hr => ?_)
  have hu := hr.units
  have tk : Takes (cxOf (L2.CX P w) P w K mg base N_last_threshold "last_threshold" (defScope s_last_threshold) (He.ga K "last_threshold") cdv A outer s H E) (fun cls d _ H => E cls d H) := takes_of rfl rfl rfl rfl
  exact (b_one (s_ret (e_callB (c_max2 rfl) T.m_max boot_max (a_cons (e_call h_threshold_of (hr.mono (by decide)) tk (a_cons (ev 0) a_nil)) (a_cons (e_call h_threshold_of (hr.mono (by decide)) tk (a_cons (ev 1) a_nil)) a_nil)))))
theorem ok_both_periods (T : Tx K mg) : Has P w K mg base 2 "both_periods" ["first", "second"] sp_both_periods := by
  obtain ⟨fd, F⟩ := T.f_both_periods
  have h_period_of : Has P w K mg base 1 "period_of" ["chain"] sp_period_of := ok_period_of T
  have h_common_multiple : Has P w K mg base 1 "common_multiple" ["one", "other"] sp_common_multiple := ok_common_multiple T
  have sc := sc_both_periods
  refine Has.mk (N := N_both_periods) F sc T.g_both_periods (FunD.bindsN F fun _ _ _ _ _ _ us hl => match us, hl with | [_, _], _ => rfl) psp.mono (psp.len fun _ => rfl) pure_both_periods (fun cdv A outer s H E hr => ?_)
  have hu := hr.units
  have tk : Takes (cxOf (L2.CX P w) P w K mg base N_both_periods "both_periods" (defScope s_both_periods) (He.ga K "both_periods") cdv A outer s H E) (fun cls d _ H => E cls d H) := takes_of rfl rfl rfl rfl
  exact (b_one (s_ret (e_call h_common_multiple (hr.mono (by decide)) tk (a_cons (e_call h_period_of (hr.mono (by decide)) tk (a_cons (ev 0) a_nil)) (a_cons (e_call h_period_of (hr.mono (by decide)) tk (a_cons (ev 1) a_nil)) a_nil)))))
theorem ok_meeting (T : Tx K mg) : Has P w K mg base 2 "meeting" ["one", "other"] sp_meeting := by
  obtain ⟨fd, F⟩ := T.f_meeting
  have h_common_multiple : Has P w K mg base 1 "common_multiple" ["one", "other"] sp_common_multiple := ok_common_multiple T
  have h_inverse : Has P w K mg base 1 "inverse" ["number", "modulus"] sp_inverse := ok_inverse T
  have sc := sc_meeting
  refine Has.mk (N := N_meeting) F sc T.g_meeting (FunD.bindsN F fun _ _ _ _ _ _ us hl => match us, hl with | [_, _], _ => rfl) rsp.mono (rsp.len fun _ => rfl) pure_meeting (fun cdv A outer s H E hr => ?_)
  have hu := hr.units
  have tk : Takes (cxOf (L2.CX P w) P w K mg base N_meeting "meeting" (defScope s_meeting) (He.ga K "meeting") cdv A outer s H E) (fun cls d _ H => E cls d H) := takes_of rfl rfl rfl rfl
  exact (b_cons (s_asg (ev 0) (g_tup rfl (gs_cons (g_name 2 sc.nd) (gs_cons (g_name 3 sc.nd) (gs_cons (g_name 4 sc.nd) gs_nil)))))
      (b_cons (s_asg (ev 1) (g_tup rfl (gs_cons (g_name 5 sc.nd) (gs_cons (g_name 6 sc.nd) (gs_cons (g_name 7 sc.nd) gs_nil)))))
      (b_cons (s_set 8 sc.nd (e_call h_common_multiple (hr.mono (by decide)) tk (a_cons (ev 3) (a_cons (ev 6) a_nil))))
      (b_cons (s_set 9 sc.nd (e_op o_fdiv (e_op o_mul (ev 3) (ev 6)) (ev 8)))
      (b_cons (s_if ((w_or (t_cmp o_eq (ev 4) e_int) (w_or (t_cmp o_eq (ev 7) e_int) (w_or1 (t_cmp o_ne (e_op o_mod (e_op o_sub (ev 5) (ev 2)) (ev 9)) e_int))))).t (b_one (s_ret (e_tup (a_cons e_int (a_cons e_int (a_cons e_int a_nil)))))) b_nil)
      (b_cons (s_set 10 sc.nd (e_op o_fdiv (ev 6) (ev 9)))
      (b_cons (s_set 11 sc.nd (e_if (t_cmp o_gt (ev 10) e_int) (e_op o_mod (e_op o_mul (e_op o_fdiv (e_op o_sub (ev 5) (ev 2)) (ev 9)) (e_call h_inverse (hr.mono (by decide)) tk (a_cons (e_op o_fdiv (ev 3) (ev 9)) (a_cons (ev 10) a_nil)))) (ev 10)) e_int))
      (b_cons (s_set 12 sc.nd (e_op o_add (ev 2) (e_op o_mul (ev 3) (ev 11))))
      (b_cons (s_par 13 14 rfl sc.nd (a_cons (e_callB (c_max2 rfl) T.m_max boot_max (a_cons (ev 2) (a_cons (ev 5) a_nil))) (a_cons (e_callB (c_min2 rfl) T.m_min boot_min (a_cons (e_op o_add (ev 2) (e_op o_mul (ev 3) (e_op o_sub (ev 4) e_int))) (a_cons (e_op o_add (ev 5) (e_op o_mul (ev 6) (e_op o_sub (ev 7) e_int))) a_nil))) a_nil)))
      (b_cons (s_if (t_cmp o_lt (ev 12) (ev 13)) (b_one (s_aug 12 sc.nd o_iadd (e_op o_mul (e_op o_fdiv (e_op o_sub (e_op o_add (e_op o_sub (ev 13) (ev 12)) (ev 8)) e_int) (ev 8)) (ev 8)))) b_nil)
      (b_one (s_ret (e_tup (a_cons (ev 12) (a_cons (ev 8) (a_cons (e_callB (c_max2 rfl) T.m_max boot_max (a_cons e_int (a_cons (e_op o_add (e_op o_fdiv (e_op o_sub (ev 14) (ev 12)) (ev 8)) e_int) a_nil))) a_nil))))))))))))))))
theorem ok__law_of (T : Tx K mg) : Has P w K mg base 2 "_law_of" ["_law_bag_here", "_law_some"] sp__law_of := by
  obtain ⟨fd, F⟩ := T.f__law_of
  have h__law_take : Has P w K mg base 1 "_law_take" ["_law_bag_here", "_law_count"] sp__law_take := ok__law_take T
  have sc := sc__law_of
  refine Has.mk (N := N__law_of) F sc T.g__law_of (FunD.bindsN F fun _ _ _ _ _ _ us hl => match us, hl with | [_, _], _ => rfl) bsp.mono (bsp.len fun _ => rfl) pure__law_of (fun cdv A outer s H E hr => ?_)
  have hu := hr.units
  have tk : Takes (cxOf (L2.CX P w) P w K mg base N__law_of "_law_of" (defScope s__law_of) (He.ga K "_law_of") cdv A outer s H E) (fun cls d _ H => E cls d H) := takes_of rfl rfl rfl rfl
  exact (b_one (s_ret (e_ix i_seq (ev 1) (e_call h__law_take (hr.mono (by decide)) tk (a_cons (ev 0) (a_cons (e_callB c_len T.m_len boot_len (a_cons (ev 1) a_nil)) a_nil))))))
theorem ok__law_shown (T : Tx K mg) : Has P w K mg base 2 "_law_shown" ["_law_chain_here", "_law_length"] sp__law_shown := by
  obtain ⟨fd, F⟩ := T.f__law_shown
  have h__law_part : Has P w K mg base 1 "_law_part" ["_law_one", "_law_c"] sp__law_part := ok__law_part T
  have sc := sc__law_shown
  refine Has.mk (N := N__law_shown) F sc T.g__law_shown (FunD.bindsN F fun _ _ _ _ _ _ us hl => match us, hl with | [_, _], _ => rfl) psp.mono (psp.len fun _ => rfl) pure__law_shown (fun cdv A outer s H E hr => ?_)
  have hu := hr.units
  have tk : Takes (cxOf (L2.CX P w) P w K mg base N__law_shown "_law_shown" (defScope s__law_shown) (He.ga K "_law_shown") cdv A outer s H E) (fun cls d _ H => E cls d H) := takes_of rfl rfl rfl rfl
  exact (b_cons (s_par3 2 3 4 rfl sc.nd (a_cons e_int (a_cons e_int (a_cons (ev 1) a_nil))))
      (b_cons (s_for (passes_of rfl) rfl (j_tup (ev 0)) (g_name 5 sc.nd) (b_cons (s_asg (e_call h__law_part (hr.mono (by decide)) tk (a_cons (ev 5) (a_cons (ev 4) a_nil))) (g_tup rfl (gs_cons (g_name 6 sc.nd) (gs_cons (g_name 7 sc.nd) gs_nil))))
      (b_one (s_par3 2 3 4 rfl sc.nd (a_cons (e_op o_add (ev 2) (e_op o_mul (ev 3) (ev 6))) (a_cons (e_op o_mul (ev 3) (e_ix i_seq (ev 5) e_int)) (a_cons (ev 7) a_nil)))))))
      (b_one (s_ret (e_tup (a_cons (e_if (t_cmp o_gt (ev 4) e_int) (ev 2) e_non) (a_cons (e_if (t_cmp o_gt (ev 4) e_int) (ev 3) e_non) (a_cons (ev 4) a_nil))))))))
theorem ok__law_limit (T : Tx K mg) : Has P w K mg base 2 "_law_limit" ["_law_first", "_law_second"] sp__law_limit := by
  obtain ⟨fd, F⟩ := T.f__law_limit
  have h__law_weights : Has P w K mg base 1 "_law_weights" ["_law_chain_here"] sp__law_weights := ok__law_weights T
  have h__law_multiple : Has P w K mg base 1 "_law_multiple" ["_law_one", "_law_other"] sp__law_multiple := ok__law_multiple T
  have sc := sc__law_limit
  refine Has.mk (N := N__law_limit) F sc T.g__law_limit (FunD.bindsN F fun _ _ _ _ _ _ us hl => match us, hl with | [_, _], _ => rfl) psp.mono (psp.len fun _ => rfl) pure__law_limit (fun cdv A outer s H E hr => ?_)
  have hu := hr.units
  have tk : Takes (cxOf (L2.CX P w) P w K mg base N__law_limit "_law_limit" (defScope s__law_limit) (He.ga K "_law_limit") cdv A outer s H E) (fun cls d _ H => E cls d H) := takes_of rfl rfl rfl rfl
  exact (b_cons (s_par 2 3 rfl sc.nd (a_cons (e_call h__law_weights (hr.mono (by decide)) tk (a_cons (ev 0) a_nil)) (a_cons (e_call h__law_weights (hr.mono (by decide)) tk (a_cons (ev 1) a_nil)) a_nil)))
      (b_one (s_ret (e_tup (a_cons (e_callB (c_max2 rfl) T.m_max boot_max (a_cons (e_ix i_seq (ev 2) e_int) (a_cons (e_ix i_seq (ev 3) e_int) a_nil))) (a_cons (e_call h__law_multiple (hr.mono (by decide)) tk (a_cons (e_ix i_seq (ev 2) e_int) (a_cons (e_ix i_seq (ev 3) e_int) a_nil))) a_nil))))))
theorem ok_is_slice (T : Tx K mg) : Has P w K mg base 3 "is_slice" ["value"] sp_is_slice := by
  obtain ⟨fd, F⟩ := T.f_is_slice
  have h_is_bound : Has P w K mg base 2 "is_bound" ["value"] sp_is_bound := ok_is_bound T
  have h_is_step : Has P w K mg base 2 "is_step" ["value"] sp_is_step := ok_is_step T
  have sc := sc_is_slice
  refine Has.mk (N := N_is_slice) F sc T.g_is_slice (FunD.bindsN F fun _ _ _ _ _ _ us hl => match us, hl with | [_], _ => rfl) psp.mono (psp.len fun _ => rfl) pure_is_slice (fun cdv A outer s H E hr => ?_)
  have hu := hr.units
  have tk : Takes (cxOf (L2.CX P w) P w K mg base N_is_slice "is_slice" (defScope s_is_slice) (He.ga K "is_slice") cdv A outer s H E) (fun cls d _ H => E cls d H) := takes_of rfl rfl rfl rfl
  exact (b_cons (s_if ((w_or (t_not (t_val (e_isi (ev 0) T.m_isinstance T.m_tuple boot_tuple))) (w_or1 (t_cmp o_ne (e_callB c_len T.m_len boot_len (a_cons (ev 0) a_nil)) e_int)))).t (b_one (s_ret e_bl)) b_nil)
      (b_one (s_ret (e_and (e_call h_is_bound (hr.mono (by decide)) tk (a_cons (e_ix i_seq (ev 0) e_int) a_nil)) (e_and (e_call h_is_bound (hr.mono (by decide)) tk (a_cons (e_ix i_seq (ev 0) e_int) a_nil)) (e_one (e_call h_is_step (hr.mono (by decide)) tk (a_cons (e_ix i_seq (ev 0) e_int) a_nil))))))))
theorem ok_applied (T : Tx K mg) : Has P w K mg base 3 "applied" ["one", "shown"] sp_applied := by
  obtain ⟨fd, F⟩ := T.f_applied
  have h_ends : Has P w K mg base 2 "ends" ["one", "count"] sp_ends := ok_ends T
  have sc := sc_applied
  refine Has.mk (N := N_applied) F sc T.g_applied (FunD.bindsN F fun _ _ _ _ _ _ us hl => match us, hl with | [_, _], _ => rfl) psp.mono (psp.len fun _ => rfl) pure_applied (fun cdv A outer s H E hr => ?_)
  have hu := hr.units
  have tk : Takes (cxOf (L2.CX P w) P w K mg base N_applied "applied" (defScope s_applied) (He.ga K "applied") cdv A outer s H E) (fun cls d _ H => E cls d H) := takes_of rfl rfl rfl rfl
  exact (b_cons (s_asg (ev 1) (g_tup rfl (gs_cons (g_name 2 sc.nd) (gs_cons (g_name 3 sc.nd) (gs_cons (g_name 4 sc.nd) gs_nil)))))
      (b_cons (s_asg (e_call h_ends (hr.mono (by decide)) tk (a_cons (ev 0) (a_cons (ev 4) a_nil))) (g_tup rfl (gs_cons (g_name 5 sc.nd) (gs_cons (g_name 6 sc.nd) gs_nil))))
      (b_cons (s_if (t_cmp o_gt (e_ix i_seq (ev 0) e_int) e_int) (b_one (s_set 7 sc.nd (e_callB (c_max2 rfl) T.m_max boot_max (a_cons e_int (a_cons (e_op o_fdiv (e_op o_sub (e_op o_add (e_op o_sub (ev 6) (ev 5)) (e_ix i_seq (ev 0) e_int)) e_int) (e_ix i_seq (ev 0) e_int)) a_nil))))) (b_one (s_set 7 sc.nd (e_callB (c_max2 rfl) T.m_max boot_max (a_cons e_int (a_cons (e_op o_fdiv (e_op o_sub (e_op o_sub (e_op o_sub (ev 5) (ev 6)) (e_ix i_seq (ev 0) e_int)) e_int) (e_op o_sub e_int (e_ix i_seq (ev 0) e_int))) a_nil))))))
      (b_one (s_ret (e_tup (a_cons (e_op o_add (ev 2) (e_op o_mul (ev 3) (ev 5))) (a_cons (e_op o_mul (ev 3) (e_ix i_seq (ev 0) e_int)) (a_cons (ev 7) a_nil)))))))))
theorem ok_bound_for (T : Tx K mg) : Has P w K mg base 3 "bound_for" ["first", "second"] sp_bound_for := by
  obtain ⟨fd, F⟩ := T.f_bound_for
  have h_last_threshold : Has P w K mg base 2 "last_threshold" ["first", "second"] sp_last_threshold := ok_last_threshold T
  have h_both_periods : Has P w K mg base 2 "both_periods" ["first", "second"] sp_both_periods := ok_both_periods T
  have sc := sc_bound_for
  refine Has.mk (N := N_bound_for) F sc T.g_bound_for (FunD.bindsN F fun _ _ _ _ _ _ us hl => match us, hl with | [_, _], _ => rfl) psp.mono (psp.len fun _ => rfl) pure_bound_for (fun cdv A outer s H E hr => ?_)
  have hu := hr.units
  have tk : Takes (cxOf (L2.CX P w) P w K mg base N_bound_for "bound_for" (defScope s_bound_for) (He.ga K "bound_for") cdv A outer s H E) (fun cls d _ H => E cls d H) := takes_of rfl rfl rfl rfl
  exact (b_one (s_ret (e_op o_add (e_call h_last_threshold (hr.mono (by decide)) tk (a_cons (ev 0) (a_cons (ev 1) a_nil))) (e_op o_mul e_int (e_call h_both_periods (hr.mono (by decide)) tk (a_cons (ev 0) (a_cons (ev 1) a_nil)))))))
theorem ok__law_bound (T : Tx K mg) : Has P w K mg base 3 "_law_bound" ["_law_bag_here", "_law_wide"] sp__law_bound := by
  obtain ⟨fd, F⟩ := T.f__law_bound
  have h__law_take : Has P w K mg base 1 "_law_take" ["_law_bag_here", "_law_count"] sp__law_take := ok__law_take T
  have h__law_of : Has P w K mg base 2 "_law_of" ["_law_bag_here", "_law_some"] sp__law_of := ok__law_of T
  have sc := sc__law_bound
  refine Has.mk (N := N__law_bound) F sc T.g__law_bound (FunD.bindsN F fun _ _ _ _ _ _ us hl => match us, hl with | [_, _], _ => rfl) bsp.mono (bsp.len fun _ => rfl) pure__law_bound (fun cdv A outer s H E hr => ?_)
  have hu := hr.units
  have tk : Takes (cxOf (L2.CX P w) P w K mg base N__law_bound "_law_bound" (defScope s__law_bound) (He.ga K "_law_bound") cdv A outer s H E) (fun cls d _ H => E cls d H) := takes_of rfl rfl rfl rfl
  exact (b_one (s_ret (e_call h__law_of (hr.mono (by decide)) tk (a_cons (ev 0) (a_cons (e_lst (a_cons e_non (a_cons e_non (a_cons e_int (a_cons e_int (a_cons (e_un u_neg e_int) (a_cons (e_call h__law_take (hr.mono (by decide)) tk (a_cons (ev 0) (a_cons (e_op o_add (ev 1) e_int) a_nil))) (a_cons (e_op o_sub e_int (e_call h__law_take (hr.mono (by decide)) tk (a_cons (ev 0) (a_cons (e_op o_add (ev 1) e_int) a_nil)))) a_nil)))))))) a_nil)))))
theorem ok__law_places (T : Tx K mg) : Has P w K mg base 3 "_law_places" ["_law_chain_here", "_law_length"] sp__law_places := by
  obtain ⟨fd, F⟩ := T.f__law_places
  have h__law_shown : Has P w K mg base 2 "_law_shown" ["_law_chain_here", "_law_length"] sp__law_shown := ok__law_shown T
  have sc := sc__law_places
  refine Has.mk (N := N__law_places) F sc T.g__law_places (FunD.bindsN F fun _ _ _ _ _ _ us hl => match us, hl with | [_, _], _ => rfl) lsp.mono (lsp.len fun _ => rfl) pure__law_places (fun cdv A outer s H E hr => ?_)
  have hu := hr.units
  have tk : Takes (cxOf (L2.CX P w) P w K mg base N__law_places "_law_places" (defScope s__law_places) (He.ga K "_law_places") cdv A outer s H E) (fun cls d _ H => E cls d H) := takes_of rfl rfl rfl rfl
  exact (b_cons (s_asg (e_call h__law_shown (hr.mono (by decide)) tk (a_cons (ev 0) (a_cons (ev 1) a_nil))) (g_tup rfl (gs_cons (g_name 2 sc.nd) (gs_cons (g_name 3 sc.nd) (gs_cons (g_name 4 sc.nd) gs_nil)))))
      (b_one (s_ret (e_lc (own := [("_law_number", 5)]) rfl sc.nd (j_range1 (ev 4) T.m_range) (blkOk_by (N := N__law_places) (sc := defScope s__law_places) (by decide +kernel)) (cg_name 5) (fun _ _ _ _ _ => pg_name (i := 5) sc.nd rfl (Or.inl rfl)) (fun _ _ _ _ _ => f_nil) (fun _ _ _ _ _ => (e_op o_add (ev 2) (e_op o_mul (e_orT (ev 3) (e_one e_int)) (ev 5))))))))
theorem ok__law_known (T : Tx K mg) : Has P w K mg base 3 "_law_known" ["_law_bag_here"] sp__law_known := by
  obtain ⟨fd, F⟩ := T.f__law_known
  have h__law_of : Has P w K mg base 2 "_law_of" ["_law_bag_here", "_law_some"] sp__law_of := ok__law_of T
  have sc := sc__law_known
  refine Has.mk (N := N__law_known) F sc T.g__law_known (FunD.bindsN F fun _ _ _ _ _ _ us hl => match us, hl with | [_], _ => rfl) bsp.mono (bsp.len fun _ => rfl) pure__law_known (fun cdv A outer s H E hr => ?_)
  have hu := hr.units
  have tk : Takes (cxOf (L2.CX P w) P w K mg base N__law_known "_law_known" (defScope s__law_known) (He.ga K "_law_known") cdv A outer s H E) (fun cls d _ H => E cls d H) := takes_of rfl rfl rfl rfl
  exact (b_cons (s_set 1 sc.nd (e_call h__law_of (hr.mono (by decide)) tk (a_cons (ev 0) (a_cons (e_lst (a_cons e_int (a_cons e_int (a_cons e_int (a_cons (e_un u_neg e_int) (a_cons (e_un u_neg e_int) a_nil)))))) a_nil))))
      (b_cons (s_set 2 sc.nd (e_tup (a_cons (e_tup (a_cons (e_tup (a_cons e_non (a_cons (ev 1) (a_cons e_int a_nil)))) a_nil)) (a_cons (e_tup (a_cons (e_tup (a_cons (ev 1) (a_cons e_non (a_cons e_int a_nil)))) a_nil)) a_nil))))
      (b_cons (s_set 3 sc.nd (e_callTy c_tuple T.m_tuple boot_tuple (a_cons (e_lc (own := [("_law_start", 6)]) rfl sc.nd (j_range1 e_int T.m_range) (blkOk_by (N := N__law_known) (sc := defScope s__law_known) (by decide +kernel)) (cg_name 6) (fun _ _ _ _ _ => pg_name (i := 6) sc.nd rfl (Or.inl rfl)) (fun _ _ _ _ _ => f_nil) (fun _ _ _ _ _ => (e_tup (a_cons (e_tup (a_cons (ev 6) (a_cons e_non (a_cons e_int a_nil)))) a_nil)))) a_nil)))
      (b_cons (s_set 4 sc.nd (e_tup (a_cons (e_tup (a_cons (e_tup (a_cons e_non (a_cons e_non (a_cons e_int a_nil)))) a_nil)) (a_cons (e_tup (a_cons (e_tup (a_cons e_int (a_cons e_non (a_cons e_int a_nil)))) a_nil)) a_nil))))
      (b_cons (s_set 5 sc.nd (e_tup (a_cons (e_tup (a_cons (e_tup (a_cons e_non (a_cons (ev 1) (a_cons e_int a_nil)))) a_nil)) (a_cons (e_tup (a_cons (e_tup (a_cons (ev 1) (a_cons e_non (a_cons e_int a_nil)))) (a_cons (e_tup (a_cons e_non (a_cons e_non (a_cons e_int a_nil)))) a_nil))) (a_cons (e_tup (a_cons (e_tup (a_cons (ev 1) (a_cons e_non (a_cons e_int a_nil)))) (a_cons (e_tup (a_cons e_int (a_cons e_non (a_cons e_int a_nil)))) a_nil))) a_nil)))))
      (b_one (s_ret (e_call h__law_of (hr.mono (by decide)) tk (a_cons (ev 0) (a_cons (e_lst (a_cons (ev 2) (a_cons (ev 3) (a_cons (ev 4) (a_cons (ev 5) (a_cons (e_revT (ev 4)) (a_cons (e_tup (a_cons (e_tup a_nil) a_nil)) (a_cons (e_revT (ev 3)) a_nil)))))))) a_nil))))))))))
theorem ok_is_chain (T : Tx K mg) : Has P w K mg base 4 "is_chain" ["value"] sp_is_chain := by
  obtain ⟨fd, F⟩ := T.f_is_chain
  have h_is_slice : Has P w K mg base 3 "is_slice" ["value"] sp_is_slice := ok_is_slice T
  have sc := sc_is_chain
  refine Has.mk (N := N_is_chain) F sc T.g_is_chain (FunD.bindsN F fun _ _ _ _ _ _ us hl => match us, hl with | [_], _ => rfl) psp.mono (psp.len fun _ => rfl) pure_is_chain (fun cdv A outer s H E hr => ?_)
  have hu := hr.units
  have tk : Takes (cxOf (L2.CX P w) P w K mg base N_is_chain "is_chain" (defScope s_is_chain) (He.ga K "is_chain") cdv A outer s H E) (fun cls d _ H => E cls d H) := takes_of rfl rfl rfl rfl
  exact (b_one (s_ret (e_and (e_isi (ev 0) T.m_isinstance T.m_tuple boot_tuple) (e_and (e_cmp o_le (e_callB c_len T.m_len boot_len (a_cons (ev 0) a_nil)) (e_globI T.c_SLICES)) (e_one (e_callB (c_all rfl) T.m_all boot_all (a_cons (e_lc (own := [("one", 1)]) rfl sc.nd (j_tup (ev 0)) (blkOk_by (N := N_is_chain) (sc := defScope s_is_chain) (by decide +kernel)) (cg_name 1) (fun _ _ _ _ _ => pg_name (i := 1) sc.nd rfl (Or.inl rfl)) (fun _ _ _ _ _ => f_nil) (fun _ _ _ _ _ => (e_call h_is_slice (hr.mono (by decide)) takes0 (a_cons (ev 1) a_nil)))) a_nil)))))))
theorem ok_shown_by (T : Tx K mg) : Has P w K mg base 4 "shown_by" ["chain", "length"] sp_shown_by := by
  obtain ⟨fd, F⟩ := T.f_shown_by
  have h_applied : Has P w K mg base 3 "applied" ["one", "shown"] sp_applied := ok_applied T
  have sc := sc_shown_by
  refine Has.mk (N := N_shown_by) F sc T.g_shown_by (FunD.bindsN F fun _ _ _ _ _ _ us hl => match us, hl with | [_, _], _ => rfl) psp.mono (psp.len fun _ => rfl) pure_shown_by (fun cdv A outer s H E hr => ?_)
  have hu := hr.units
  have tk : Takes (cxOf (L2.CX P w) P w K mg base N_shown_by "shown_by" (defScope s_shown_by) (He.ga K "shown_by") cdv A outer s H E) (fun cls d _ H => E cls d H) := takes_of rfl rfl rfl rfl
  exact (b_cons (s_set 2 sc.nd (e_tup (a_cons e_int (a_cons e_int (a_cons (ev 1) a_nil)))))
      (b_cons (s_for (passes_of rfl) rfl (j_tup (ev 0)) (g_name 3 sc.nd) (b_one (s_set 2 sc.nd (e_call h_applied (hr.mono (by decide)) tk (a_cons (ev 3) (a_cons (ev 2) a_nil))))))
      (b_one (s_ret (ev 2)))))
theorem ok__law_slice (T : Tx K mg) : Has P w K mg base 4 "_law_slice" ["_law_bag_here", "_law_wide"] sp__law_slice := by
  obtain ⟨fd, F⟩ := T.f__law_slice
  have h__law_of : Has P w K mg base 2 "_law_of" ["_law_bag_here", "_law_some"] sp__law_of := ok__law_of T
  have h__law_bound : Has P w K mg base 3 "_law_bound" ["_law_bag_here", "_law_wide"] sp__law_bound := ok__law_bound T
  have sc := sc__law_slice
  refine Has.mk (N := N__law_slice) F sc T.g__law_slice (FunD.bindsN F fun _ _ _ _ _ _ us hl => match us, hl with | [_, _], _ => rfl) bsp.mono (bsp.len fun _ => rfl) pure__law_slice (fun cdv A outer s H E hr => ?_)
  have hu := hr.units
  have tk : Takes (cxOf (L2.CX P w) P w K mg base N__law_slice "_law_slice" (defScope s__law_slice) (He.ga K "_law_slice") cdv A outer s H E) (fun cls d _ H => E cls d H) := takes_of rfl rfl rfl rfl
  exact (b_one (s_ret (e_tup (a_cons (e_call h__law_bound (hr.mono (by decide)) tk (a_cons (ev 0) (a_cons (ev 1) a_nil))) (a_cons (e_call h__law_bound (hr.mono (by decide)) tk (a_cons (ev 0) (a_cons (ev 1) a_nil))) (a_cons (e_call h__law_of (hr.mono (by decide)) tk (a_cons (ev 0) (a_cons (e_lst (a_cons e_int (a_cons e_int (a_cons e_int (a_cons (e_un u_neg e_int) (a_cons (e_un u_neg e_int) (a_cons e_int (a_cons (e_un u_neg e_int) a_nil)))))))) a_nil))) a_nil))))))
theorem ok__law_apart (T : Tx K mg) : Has P w K mg base 4 "_law_apart" ["_law_first", "_law_second", "_law_most"] sp__law_apart := by
  obtain ⟨fd, F⟩ := T.f__law_apart
  have h__law_places : Has P w K mg base 3 "_law_places" ["_law_chain_here", "_law_length"] sp__law_places := ok__law_places T
  have sc := sc__law_apart
  refine Has.mk (N := N__law_apart) F sc T.g__law_apart (FunD.bindsN F fun _ _ _ _ _ _ us hl => match us, hl with | [_, _, _], _ => rfl) psp.mono (psp.len fun _ => rfl) pure__law_apart (fun cdv A outer s H E hr => ?_)
  have hu := hr.units
  have tk : Takes (cxOf (L2.CX P w) P w K mg base N__law_apart "_law_apart" (defScope s__law_apart) (He.ga K "_law_apart") cdv A outer s H E) (fun cls d _ H => E cls d H) := takes_of rfl rfl rfl rfl
  exact (b_cons (s_for (passes_of rfl) rfl (j_range1 (ev 2) T.m_range) (g_name 3 sc.nd) (b_cons (s_set 4 sc.nd (e_call h__law_places (hr.mono (by decide)) tk (a_cons (ev 1) (a_cons (ev 3) a_nil))))
      (b_one (s_if (t_cmp (o_neD hu) (e_lc (own := [("_law_place", 5)]) rfl sc.nd (j_lst (e_call h__law_places (hr.mono (by decide)) tk (a_cons (ev 0) (a_cons (ev 3) a_nil)))) (blkOk_by (N := N__law_apart) (sc := defScope s__law_apart) (by decide +kernel)) (cg_name 5) (fun _ _ _ _ _ => pg_name (i := 5) sc.nd rfl (Or.inl rfl)) (fun _ _ _ _ _ => (f_one (t_cmp o_in (ev 5) (ev 4)))) (fun _ _ _ _ _ => (ev 5))) (e_lst a_nil)) (b_one (s_ret e_bl)) b_nil))))
      (b_one (s_ret e_bl)))
theorem ok__law_shares (T : Tx K mg) : Has P w K mg base 4 "_law_shares" ["_law_chains_so", "_law_most"] sp__law_shares := by
  obtain ⟨fd, F⟩ := T.f__law_shares
  have h__law_places : Has P w K mg base 3 "_law_places" ["_law_chain_here", "_law_length"] sp__law_places := ok__law_places T
  have sc := sc__law_shares
  refine Has.mk (N := N__law_shares) F sc T.g__law_shares (FunD.bindsN F fun _ _ _ _ _ _ us hl => match us, hl with | [_, _], _ => rfl) rsp.mono (rsp.len fun _ => rfl) pure__law_shares (fun cdv A outer s H E hr => ?_)
  have hu := hr.units
  have tk : Takes (cxOf (L2.CX P w) P w K mg base N__law_shares "_law_shares" (defScope s__law_shares) (He.ga K "_law_shares") cdv A outer s H E) (fun cls d _ H => E cls d H) := takes_of rfl rfl rfl rfl
  exact (b_cons (s_for (passes_of rfl) rfl (j_range1 (ev 1) T.m_range) (g_name 2 sc.nd) (b_cons (s_set 3 sc.nd (e_lst a_nil))
      (b_cons (s_for (passes_of rfl) rfl (j_tup (ev 0)) (g_name 4 sc.nd) (b_one (s_set 3 sc.nd (e_op o_catL (ev 3) (e_call h__law_places (hr.mono (by decide)) tk (a_cons (ev 4) (a_cons (ev 2) a_nil)))))))
      (b_one (s_if (t_cmp (o_neD hu) (e_callB c_sortI T.m_sorted boot_sorted (a_cons (ev 3) a_nil)) (e_listR1 T.m_list T.m_range (ev 2))) (b_one (s_ret e_bl)) b_nil)))))
      (b_one (s_ret e_bl)))
theorem ok_require_chain (T : Tx K mg) : Has P w K mg base 5 "require_chain" ["chain"] sp_require_chain := by
  obtain ⟨fd, F⟩ := T.f_require_chain
  have h_is_chain : Has P w K mg base 4 "is_chain" ["value"] sp_is_chain := ok_is_chain T
  have sc := sc_require_chain
  refine Has.mk (N := N_require_chain) F sc T.g_require_chain (FunD.bindsN F fun _ _ _ _ _ _ us hl => match us, hl with | [_], _ => rfl) psp.mono (psp.len fun _ => rfl) (pure_require_chain (He.ga K "InvalidChain")) (fun cdv A outer s H E hr => ?_)
  have hu := hr.units
  have tk : Takes (cxOf (L2.CX P w) P w K mg base N_require_chain "require_chain" (defScope s_require_chain) (He.ga K "require_chain") cdv A outer s H E) (fun cls d _ H => E cls d H) := takes_of rfl rfl rfl rfl
  exact (b_one (s_if (t_not (t_val (e_call h_is_chain (hr.mono (by decide)) tk (a_cons (ev 0) a_nil)))) (b_one (s_raise rfl tk T.x_InvalidChain)) b_nil))
theorem ok_common_at (T : Tx K mg) : Has P w K mg base 5 "common_at" ["first", "second", "length"] sp_common_at := by
  obtain ⟨fd, F⟩ := T.f_common_at
  have h_shown_by : Has P w K mg base 4 "shown_by" ["chain", "length"] sp_shown_by := ok_shown_by T
  have h_rising : Has P w K mg base 1 "rising" ["shown"] sp_rising := ok_rising T
  have h_meeting : Has P w K mg base 2 "meeting" ["one", "other"] sp_meeting := ok_meeting T
  have sc := sc_common_at
  refine Has.mk (N := N_common_at) F sc T.g_common_at (FunD.bindsN F fun _ _ _ _ _ _ us hl => match us, hl with | [_, _, _], _ => rfl) rsp.mono (rsp.len fun _ => rfl) pure_common_at (fun cdv A outer s H E hr => ?_)
  have hu := hr.units
  have tk : Takes (cxOf (L2.CX P w) P w K mg base N_common_at "common_at" (defScope s_common_at) (He.ga K "common_at") cdv A outer s H E) (fun cls d _ H => E cls d H) := takes_of rfl rfl rfl rfl
  exact (b_one (s_ret (e_call h_meeting (hr.mono (by decide)) tk (a_cons (e_call h_rising (hr.mono (by decide)) tk (a_cons (e_call h_shown_by (hr.mono (by decide)) tk (a_cons (ev 0) (a_cons (ev 2) a_nil))) a_nil)) (a_cons (e_call h_rising (hr.mono (by decide)) tk (a_cons (e_call h_shown_by (hr.mono (by decide)) tk (a_cons (ev 1) (a_cons (ev 2) a_nil))) a_nil)) a_nil)))))
theorem ok_require_chains (T : Tx K mg) : Has P w K mg base 5 "require_chains" ["chains", "most"] sp_require_chains := by
  obtain ⟨fd, F⟩ := T.f_require_chains
  have h_is_chain : Has P w K mg base 4 "is_chain" ["value"] sp_is_chain := ok_is_chain T
  have sc := sc_require_chains
  refine Has.mk (N := N_require_chains) F sc T.g_require_chains (FunD.bindsN F fun _ _ _ _ _ _ us hl => match us, hl with | [_, _], _ => rfl) psp.mono (psp.len fun _ => rfl) (pure_require_chains (He.ga K "InvalidChains")) (fun cdv A outer s H E hr => ?_)
  have hu := hr.units
  have tk : Takes (cxOf (L2.CX P w) P w K mg base N_require_chains "require_chains" (defScope s_require_chains) (He.ga K "require_chains") cdv A outer s H E) (fun cls d _ H => E cls d H) := takes_of rfl rfl rfl rfl
  exact (b_one (s_if ((w_or (t_not (t_val (e_isi (ev 0) T.m_isinstance T.m_tuple boot_tuple))) (w_or (t_not (t_chain o_le o_le e_int (e_callB c_len T.m_len boot_len (a_cons (ev 0) a_nil)) (ev 1))) (w_or1 (t_not (t_val (e_callB (c_all rfl) T.m_all boot_all (a_cons (e_lc (own := [("one", 2)]) rfl sc.nd (j_tup (ev 0)) (blkOk_by (N := N_require_chains) (sc := defScope s_require_chains) (by decide +kernel)) (cg_name 2) (fun _ _ _ _ _ => pg_name (i := 2) sc.nd rfl (Or.inl rfl)) (fun _ _ _ _ _ => f_nil) (fun _ _ _ _ _ => (e_call h_is_chain (hr.mono (by decide)) takes0 (a_cons (ev 2) a_nil)))) a_nil)))))))).t (b_one (s_raise rfl tk T.x_InvalidChains)) b_nil))
theorem ok__law_chain (T : Tx K mg) : Has P w K mg base 5 "_law_chain" ["_law_bag_here", "_law_most", "_law_wide"] sp__law_chain := by
  obtain ⟨fd, F⟩ := T.f__law_chain
  have h__law_take : Has P w K mg base 1 "_law_take" ["_law_bag_here", "_law_count"] sp__law_take := ok__law_take T
  have h__law_slice : Has P w K mg base 4 "_law_slice" ["_law_bag_here", "_law_wide"] sp__law_slice := ok__law_slice T
  have sc := sc__law_chain
  refine Has.mk (N := N__law_chain) F sc T.g__law_chain (FunD.bindsN F fun _ _ _ _ _ _ us hl => match us, hl with | [_, _, _], _ => rfl) bsp.mono (bsp.len fun _ => rfl) pure__law_chain (fun cdv A outer s H E hr => ?_)
  have hu := hr.units
  have tk : Takes (cxOf (L2.CX P w) P w K mg base N__law_chain "_law_chain" (defScope s__law_chain) (He.ga K "_law_chain") cdv A outer s H E) (fun cls d _ H => E cls d H) := takes_of rfl rfl rfl rfl
  exact (b_one (s_ret (e_callTy c_tuple T.m_tuple boot_tuple (a_cons (e_lc (own := [("_law_turn", 3)]) rfl sc.nd (j_range1 (e_call h__law_take (hr.mono (by decide)) tk (a_cons (ev 0) (a_cons (e_op o_add (ev 1) e_int) a_nil))) T.m_range) (blkOk_by (N := N__law_chain) (sc := defScope s__law_chain) (by decide +kernel)) (cg_name 3) (fun _ _ _ _ _ => pg_name (i := 3) sc.nd rfl (Or.inl rfl)) (fun _ _ _ _ _ => f_nil) (fun _ _ _ _ _ => (e_call h__law_slice (hr.mono (by decide)) takes0 (a_cons (ev 0) (a_cons (ev 2) a_nil))))) a_nil))))
theorem ok_require_both (T : Tx K mg) : Has P w K mg base 6 "require_both" ["first", "second"] sp_require_both := by
  obtain ⟨fd, F⟩ := T.f_require_both
  have h_require_chain : Has P w K mg base 5 "require_chain" ["chain"] sp_require_chain := ok_require_chain T
  have sc := sc_require_both
  refine Has.mk (N := N_require_both) F sc T.g_require_both (FunD.bindsN F fun _ _ _ _ _ _ us hl => match us, hl with | [_, _], _ => rfl) psp.mono (psp.len fun _ => rfl) pure_require_both (fun cdv A outer s H E hr => ?_)
  have hu := hr.units
  have tk : Takes (cxOf (L2.CX P w) P w K mg base N_require_both "require_both" (defScope s_require_both) (He.ga K "require_both") cdv A outer s H E) (fun cls d _ H => E cls d H) := takes_of rfl rfl rfl rfl
  exact (b_cons (s_expr (e_call h_require_chain (hr.mono (by decide)) tk (a_cons (ev 0) a_nil)))
      (b_one (s_expr (e_call h_require_chain (hr.mono (by decide)) tk (a_cons (ev 1) a_nil)))))
theorem ok_are_apart (T : Tx K mg) : Has P w K mg base 6 "are_apart" ["first", "second", "bound"] sp_are_apart := by
  obtain ⟨fd, F⟩ := T.f_are_apart
  have h_common_at : Has P w K mg base 5 "common_at" ["first", "second", "length"] sp_common_at := ok_common_at T
  have sc := sc_are_apart
  refine Has.mk (N := N_are_apart) F sc T.g_are_apart (FunD.bindsN F fun _ _ _ _ _ _ us hl => match us, hl with | [_, _, _], _ => rfl) psp.mono (psp.len fun _ => rfl) pure_are_apart (fun cdv A outer s H E hr => ?_)
  have hu := hr.units
  have tk : Takes (cxOf (L2.CX P w) P w K mg base N_are_apart "are_apart" (defScope s_are_apart) (He.ga K "are_apart") cdv A outer s H E) (fun cls d _ H => E cls d H) := takes_of rfl rfl rfl rfl
  exact (b_one (s_ret (e_callB (c_all rfl) T.m_all boot_all (a_cons (e_lc (own := [("length", 3)]) rfl sc.nd (j_range1 (ev 2) T.m_range) (blkOk_by (N := N_are_apart) (sc := defScope s_are_apart) (by decide +kernel)) (cg_name 3) (fun _ _ _ _ _ => pg_name (i := 3) sc.nd rfl (Or.inl rfl)) (fun _ _ _ _ _ => f_nil) (fun _ _ _ _ _ => (e_cmp o_eq (e_ix i_seq (e_call h_common_at (hr.mono (by decide)) takes0 (a_cons (ev 0) (a_cons (ev 1) (a_cons (ev 3) a_nil)))) e_int) e_int))) a_nil))))
theorem ok_are_disjoint (T : Tx K mg) : Has P w K mg base 7 "are_disjoint" ["first", "second"] sp_are_disjoint := by
  obtain ⟨fd, F⟩ := T.f_are_disjoint
  have h_last_threshold : Has P w K mg base 2 "last_threshold" ["first", "second"] sp_last_threshold := ok_last_threshold T
  have h_bound_for : Has P w K mg base 3 "bound_for" ["first", "second"] sp_bound_for := ok_bound_for T
  have h_require_both : Has P w K mg base 6 "require_both" ["first", "second"] sp_require_both := ok_require_both T
  have h_are_apart : Has P w K mg base 6 "are_apart" ["first", "second", "bound"] sp_are_apart := ok_are_apart T
  have sc := sc_are_disjoint
  refine Has.mk (N := N_are_disjoint) F sc T.g_are_disjoint (FunD.bindsN F fun _ _ _ _ _ _ us hl => match us, hl with | [_, _], _ => rfl) psp.mono (psp.len fun _ => rfl) pure_are_disjoint (fun cdv A outer s H E hr => ?_)
  have hu := hr.units
  have tk : Takes (cxOf (L2.CX P w) P w K mg base N_are_disjoint "are_disjoint" (defScope s_are_disjoint) (He.ga K "are_disjoint") cdv A outer s H E) (fun cls d _ H => E cls d H) := takes_of rfl rfl rfl rfl
  exact (b_cons (s_expr (e_call h_require_both (hr.mono (by decide)) tk (a_cons (ev 0) (a_cons (ev 1) a_nil))))
      (b_one (s_ret (e_call h_are_apart (hr.mono (by decide)) tk (a_cons (ev 0) (a_cons (ev 1) (a_cons (e_op o_add (e_call h_bound_for (hr.mono (by decide)) tk (a_cons (ev 0) (a_cons (ev 1) a_nil))) (e_call h_last_threshold (hr.mono (by decide)) tk (a_cons (ev 0) (a_cons (ev 1) a_nil)))) a_nil)))))))
theorem ok_are_partition (T : Tx K mg) : Has P w K mg base 7 "are_partition" ["chains"] sp_are_partition2 := by
  obtain ⟨fd, F⟩ := T.f_are_partition
  have h_shown_by : Has P w K mg base 4 "shown_by" ["chain", "length"] sp_shown_by := ok_shown_by T
  have h_threshold_of : Has P w K mg base 1 "threshold_of" ["chain"] sp_threshold_of := ok_threshold_of T
  have h_period_of : Has P w K mg base 1 "period_of" ["chain"] sp_period_of := ok_period_of T
  have h_common_multiple : Has P w K mg base 1 "common_multiple" ["one", "other"] sp_common_multiple := ok_common_multiple T
  have h_are_apart : Has P w K mg base 6 "are_apart" ["first", "second", "bound"] sp_are_apart := ok_are_apart T
  have h_require_chains : Has P w K mg base 5 "require_chains" ["chains", "most"] sp_require_chains := ok_require_chains T
  have sc := sc_are_partition
  refine Has.mk (N := N_are_partition) F sc T.g_are_partition (FunD.bindsN F fun _ _ _ _ _ _ us hl => match us, hl with | [_], _ => rfl) psp.mono (psp.len fun _ => rfl) pure_are_partition2 (fun cdv A outer s H E hr => ?_)
  have hu := hr.units
  have tk : Takes (cxOf (L2.CX P w) P w K mg base N_are_partition "are_partition" (defScope s_are_partition) (He.ga K "are_partition") cdv A outer s H E) (fun cls d _ H => E cls d H) := takes_of rfl rfl rfl rfl
  exact (b_cons (s_expr (e_call h_require_chains (hr.mono (by decide)) tk (a_cons (ev 0) (a_cons e_int a_nil))))
      (b_cons (s_set 1 sc.nd e_int)
      (b_cons (s_for (passes_of rfl) rfl (j_tup (ev 0)) (g_name 2 sc.nd) (b_one (s_set 1 sc.nd (e_call h_common_multiple (hr.mono (by decide)) tk (a_cons (ev 1) (a_cons (e_call h_period_of (hr.mono (by decide)) tk (a_cons (ev 2) a_nil)) a_nil))))))
      (b_cons (s_set 3 sc.nd (e_op o_add (e_op o_mul e_int (e_callB (c_maxL rfl) T.m_max boot_max (a_cons (e_lc (own := [("chain", 2)]) rfl sc.nd (j_tup (ev 0)) (blkOk_by (N := N_are_partition) (sc := defScope s_are_partition) (by decide +kernel)) (cg_name 2) (fun _ _ _ _ _ => pg_name (i := 2) sc.nd rfl (Or.inl rfl)) (fun _ _ _ _ _ => f_nil) (fun _ _ _ _ _ => (e_call h_threshold_of (hr.mono (by decide)) takes0 (a_cons (ev 2) a_nil)))) a_nil))) (e_op o_mul e_int (ev 1))))
      (b_cons (s_for (passes_of rfl) rfl (j_range1 (ev 3) T.m_range) (g_name 4 sc.nd) (b_one (s_if (t_cmp o_ne (e_callB (c_sum rfl) T.m_sum boot_sum (a_cons (e_lc (own := [("chain", 2)]) rfl sc.nd (j_tup (ev 0)) (blkOk_by (N := N_are_partition) (sc := defScope s_are_partition) (by decide +kernel)) (cg_name 2) (fun _ _ _ _ _ => pg_name (i := 2) sc.nd rfl (Or.inl rfl)) (fun _ _ _ _ _ => f_nil) (fun _ _ _ _ _ => (e_ix i_seq (e_call h_shown_by (hr.mono (by decide)) takes0 (a_cons (ev 2) (a_cons (ev 4) a_nil))) e_int))) a_nil)) (ev 4)) (b_one (s_ret e_bl)) b_nil)))
      (b_cons (s_for (passes_of rfl) rfl (j_enumT (ev 0) T.m_enumerate) (g_tup rfl (gs_cons (g_name 5 sc.nd) (gs_cons (g_name 2 sc.nd) gs_nil))) (b_one (s_if (t_not (t_val (e_callB (c_all rfl) T.m_all boot_all (a_cons (e_lc (own := [("other", 6)]) rfl sc.nd (j_tup (e_slice s_tup (ev 0) p_none (p_some (ev 5)))) (blkOk_by (N := N_are_partition) (sc := defScope s_are_partition) (by decide +kernel)) (cg_name 6) (fun _ _ _ _ _ => pg_name (i := 6) sc.nd rfl (Or.inl rfl)) (fun _ _ _ _ _ => f_nil) (fun _ _ _ _ _ => (e_call h_are_apart (hr.mono (by decide)) takes0 (a_cons (ev 2) (a_cons (ev 6) (a_cons (ev 3) a_nil)))))) a_nil)))) (b_one (s_ret e_bl)) b_nil)))
      (b_one (s_ret e_bl))))))))
theorem ok_law (T : Tx K mg) {f : Addr} {fd : FuncData} (F : FunD K "law" "law" (defArgs s_law) (defBody s_law) (defScope s_law) [] [] f fd) : FnOk P w K mg base (L2.CX P w) 8 f fd ["_law_script"] (lift K sp_law) := by
  have h_are_disjoint : Has P w K mg base 7 "are_disjoint" ["first", "second"] sp_are_disjoint := ok_are_disjoint T
  have h_are_partition : Has P w K mg base 7 "are_partition" ["chains"] sp_are_partition2 := ok_are_partition T
  have h__law_bag : Has P w K mg base 1 "_law_bag" ["_law_script", "_law_k"] sp__law_bag := ok__law_bag T
  have h__law_take : Has P w K mg base 1 "_law_take" ["_law_bag_here", "_law_count"] sp__law_take := ok__law_take T
  have h__law_chain : Has P w K mg base 5 "_law_chain" ["_law_bag_here", "_law_most", "_law_wide"] sp__law_chain := ok__law_chain T
  have h__law_limit : Has P w K mg base 2 "_law_limit" ["_law_first", "_law_second"] sp__law_limit := ok__law_limit T
  have h__law_apart : Has P w K mg base 4 "_law_apart" ["_law_first", "_law_second", "_law_most"] sp__law_apart := ok__law_apart T
  have h__law_shares : Has P w K mg base 4 "_law_shares" ["_law_chains_so", "_law_most"] sp__law_shares := ok__law_shares T
  have h__law_known : Has P w K mg base 3 "_law_known" ["_law_bag_here"] sp__law_known := ok__law_known T
  have sc := sc_law
  refine fnok_mk (N := N_law) F sc law_len pure_law (fun cdv A outer s H E hr => ?_)
  have hu := hr.units
  have tk : Takes (cxOf (L2.CX P w) P w K mg base N_law "law" (defScope s_law) f cdv A outer s H E) (fun cls d _ H => E cls d H) := takes_of rfl rfl rfl rfl
  exact (b_cons (s_for (passes_of rfl) rfl (j_range1 (e_op o_add (e_callB (c_min2 rfl) T.m_min boot_min (a_cons (e_callB c_len T.m_len boot_len (a_cons (ev 0) a_nil)) (a_cons e_int a_nil))) e_int) T.m_range) (g_name 1 sc.nd) (b_cons (s_set 2 sc.nd (e_call h__law_bag (hr.mono (by decide)) tk (a_cons (ev 0) (a_cons (ev 1) a_nil))))
      (b_cons (s_for (passes_of rfl) rfl (j_range1 e_int T.m_range) (g_name 3 sc.nd) (b_cons (s_par 4 5 rfl sc.nd (a_cons (e_call h__law_chain (hr.mono (by decide)) tk (a_cons (ev 2) (a_cons e_int (a_cons e_int a_nil)))) (a_cons (e_call h__law_chain (hr.mono (by decide)) tk (a_cons (ev 2) (a_cons e_int (a_cons e_int a_nil)))) a_nil)))
      (b_cons (s_asg (e_call h__law_limit (hr.mono (by decide)) tk (a_cons (ev 4) (a_cons (ev 5) a_nil))) (g_tup rfl (gs_cons (g_name 6 sc.nd) (gs_cons (g_name 7 sc.nd) gs_nil))))
      (b_cons (s_set 8 sc.nd (e_call h__law_apart (hr.mono (by decide)) tk (a_cons (ev 4) (a_cons (ev 5) (a_cons (e_callB (c_min2 rfl) T.m_min boot_min (a_cons e_int (a_cons (e_op o_add (e_op o_add (e_op o_mul e_int (ev 6)) (e_op o_mul e_int (ev 7))) e_int) a_nil))) a_nil)))))
      (b_one (s_if ((w_or ((w_and (t_val (e_call h_are_disjoint (hr.mono (by decide)) tk (a_cons (ev 4) (a_cons (ev 5) a_nil)))) (w_and1 (t_not (t_val (ev 8)))))).t (w_or1 ((w_and (t_cmp o_lt (e_op o_add (ev 6) (ev 7)) e_int) (w_and1 (t_cmp o_ne (e_call h_are_disjoint (hr.mono (by decide)) tk (a_cons (ev 4) (a_cons (ev 5) a_nil))) (ev 8))))).t))).t (b_one (s_ret e_bl)) b_nil))))))
      (b_cons (s_set 9 sc.nd (e_call h__law_known (hr.mono (by decide)) tk (a_cons (ev 2) a_nil)))
      (b_cons (s_if ((w_or (t_cmp o_notB (e_call h_are_partition (hr.mono (by decide)) tk (a_cons (ev 9) a_nil)) e_bl) (w_or1 (t_not (t_val (e_call h__law_shares (hr.mono (by decide)) tk (a_cons (ev 9) (a_cons e_int a_nil)))))))).t (b_one (s_ret e_bl)) b_nil)
      (b_cons (s_set 10 sc.nd (e_call h__law_take (hr.mono (by decide)) tk (a_cons (ev 2) (a_cons (e_callB c_len T.m_len boot_len (a_cons (ev 9) a_nil)) a_nil))))
      (b_cons (s_set 11 sc.nd (e_op o_catT (e_op o_catT (e_slice s_tup (ev 9) p_none (p_some (ev 10))) (e_tup (a_cons (e_call h__law_chain (hr.mono (by decide)) tk (a_cons (ev 2) (a_cons e_int (a_cons e_int a_nil)))) a_nil))) (e_slice s_tup (ev 9) (p_some (e_op o_add (ev 10) e_int)) p_none)))
      (b_cons (s_if (t_cmp o_ne (e_call h_are_partition (hr.mono (by decide)) tk (a_cons (ev 11) a_nil)) (e_call h__law_shares (hr.mono (by decide)) tk (a_cons (ev 11) (a_cons e_int a_nil)))) (b_one (s_ret e_bl)) b_nil)
      (b_one (s_if ((w_and (t_cmp o_gt (e_callB c_len T.m_len boot_len (a_cons (ev 9) a_nil)) e_int) (w_and1 (t_cmp o_notB (e_call h_are_disjoint (hr.mono (by decide)) tk (a_cons (e_ix i_seq (ev 9) e_int) (a_cons (e_ix i_seq (ev 9) e_int) a_nil))) e_bl)))).t (b_one (s_ret e_bl)) b_nil))))))))))
      (b_cons (s_if ((w_or (t_cmp o_notB (e_call h_are_disjoint (hr.mono (by decide)) tk (a_cons (e_tup (a_cons (e_tup (a_cons e_int (a_cons e_int (a_cons e_int a_nil)))) a_nil)) (a_cons (e_tup (a_cons (e_tup (a_cons (e_un u_neg e_int) (a_cons (e_un u_neg e_int) (a_cons e_int a_nil)))) a_nil)) a_nil))) e_bl) (w_or1 (t_cmp o_notB (e_call h_are_partition (hr.mono (by decide)) tk (a_cons (e_tup (a_cons (e_tup (a_cons (e_tup (a_cons e_non (a_cons e_int (a_cons e_int a_nil)))) a_nil)) a_nil)) a_nil)) e_bl)))).t (b_one (s_ret e_bl)) b_nil)
      (b_cons (s_if (t_cmp o_notB (e_call h_are_partition (hr.mono (by decide)) tk (a_cons (e_tup (a_cons (e_tup (a_cons (e_tup (a_cons e_non (a_cons e_int (a_cons e_int a_nil)))) a_nil)) (a_cons (e_tup (a_cons (e_tup (a_cons e_non (a_cons (e_un u_neg e_int) (a_cons e_int a_nil)))) a_nil)) a_nil))) a_nil)) e_bl) (b_one (s_ret e_bl)) b_nil)
      (b_one (s_ret (e_cmp o_isB (e_call h_are_disjoint (hr.mono (by decide)) tk (a_cons (e_tup (a_cons (e_tup (a_cons e_non (a_cons e_non (a_cons e_int a_nil)))) a_nil)) (a_cons (e_tup (a_cons (e_tup (a_cons e_int (a_cons e_non (a_cons e_int a_nil)))) a_nil)) a_nil))) e_bl))))))
end
/-! ### the head -/
def loose : List PySem.Str := "ChainError" :: "InvalidChain" :: "InvalidChains" :: "BOUND" :: "STEP" :: "SLICES" :: "is_integer" :: "is_bound" :: "is_step" :: "is_slice" :: "is_chain" :: "require_chain" :: "moved" :: "ends" :: "applied" :: "shown_by" :: "threshold_of" :: "period_of" :: "common_multiple" :: "last_threshold" :: "both_periods" :: "bound_for" :: "require_both" :: "rising" :: "inverse" :: "meeting" :: "common_at" :: "are_apart" :: "are_disjoint" :: "require_chains" :: "are_partition" :: "_law_bag" :: "_law_take" :: "_law_of" :: "_law_bound" :: "_law_slice" :: "_law_chain" :: "_law_part" :: "_law_shown" :: "_law_weights" :: "_law_multiple" :: "_law_limit" :: "_law_unlike" :: "_law_places" :: "_law_apart" :: "_law_shares" :: "_law_known" :: []
abbrev R : PySem.W.OpenRow := PySem.W.OpenLaw.row PySem.Challenge.rw_slicechains_k15_whole_disjoint_chains_an
abbrev hk : PySem.W.Hook := He.hookD 4 fa fn
def ob (s : PySem.W.SharedT) : He.AlD := He.obsDG 4 fa fn (HandSHeadRun.getT s)
theorem ob_eq (s : PySem.W.SharedT) : ob s = hk.obs s.abs := He.obsDG_eq (HandSHeadRun.getT_eq s)
theorem run (w : World) : HandSHeadRun.RunEq R (PySem.W.view R.prog [53]) hk ob 12000 loose w := by
  intro os
  kernel_rfl
end Sc
open PySem PySem.W PySem.Calls PyProof.Rows
theorem PySem.Challenge.cw_slicechains_k15_whole_disjoint_chains_an_holds : PySem.Challenge.rw_slicechains_k15_whole_disjoint_chains_an.Holds := by
  w_on; o_law
  refine HandSHeadRun.head_any (r := OpenLaw.row PySem.Challenge.rw_slicechains_k15_whole_disjoint_chains_an) (q := view (OpenLaw.row PySem.Challenge.rw_slicechains_k15_whole_disjoint_chains_an).prog [53]) (H := Sc.hk) (ob := Sc.ob) (M := 12000) (loose := Sc.loose) (d := HandSHeadRun.topDef (OpenLaw.row PySem.Challenge.rw_slicechains_k15_whole_disjoint_chains_an).prog 53) (kwd := []) Sc.ob_eq
    (by kernel_rfl) (fun s => by kernel_rfl) Sc.run (by kernel_rfl) (by kernel_rfl) (by kernel_rfl) (by rfl) (by first | assumption | decide +kernel) (by decide +kernel) ⟨rfl, rfl, rfl, rfl, rfl, by decide +kernel⟩ ?hw ?hc
  case hw => w_witness2
  case hc =>
    refine Sc.end_walk (l := PySem.Challenge.rw_slicechains_k15_whole_disjoint_chains_an) (k := 8) rfl (by decide) ⟨rfl, by decide, by decide⟩ ?F
    intro w mg fa h Y G hmg0
    obtain ⟨K, KX, c⟩ := Y
    have hmg : mg ("law" : PySem.Str) = some (.ref fa) := by
      have e : (HandSHeadRun.topDef (OpenLaw.row PySem.Challenge.rw_slicechains_k15_whole_disjoint_chains_an).prog 53).name = ("law" : PySem.Str) := by kernel_rfl
      rw [← e]
      exact hmg0
    have T := Sc.env_of KX G c
    have T := T
    obtain ⟨fd, F⟩ := T.f_law
    have e2 := hmg.symm.trans T.g_law
    cases e2
    exact ⟨K, fd, KX, fun s v => (L2.FunD.bindsA (ps := ["_law_script"]) F fun _ _ _ _ _ _ us hl => match us, hl with | [_], _ => rfl) s [v] rfl, fun base _ _ => Sc.ok_law T F⟩

