import PyProof.Rows.All
import Wide.All
import OpenK.AllK
import Wide.FinOn
import Lean
import HandS.ForMost
import HandS.Exc
import HandS.TryOnly
import HandS.ExcOwn
import HandS.WordsExc
import HandS.Defaults
import HandS.Flow
import HandS.Style
import HandS.IsInst
import HandS.Wide
import HandS.TupAny
import HandS.TupMul
import HandS.Head0
import HandS.Head1
import HandS.Head2
import HandS.HeadEnd
import HandS.HeadHook1
import HandS.HeadHook2
import HandS.HeadHook3
import HandS.HeadHook4
import HandS.Conv
import KE.GoesEnum
import HandS.SortInts
import KE.SortData
import HandS.Deep
import PySem.Challenge.RW_slicechains_k10_whole_needless_slices
set_option Elab.async false
set_option linter.all false
set_option maxRecDepth 100000
set_option maxHeartbeats 0
/-! A layer over HandS: values as data (Dt), the immutable part of the heap hidden, mutable lists and instances in a map (Cells). -/
namespace Sc
open PySem PySem.Spec PyProof.Rows L2

inductive Dt where
  | non | bl (b : Bool) | int (i : Int) | str (x : Str) | tup (xs : List Dt) | lst (xs : List Dt) | ref (a : Addr)

mutual
def Rp (K : PySem.W.Frag) (I : Hp) : Dt → V → Prop
  | .non, v => v = .non
  | .bl b, v => v = .bl b
  | .int i, v => v = .int i
  | .str x, v => v = .str x
  | .ref a, v => v = .ref a
  | .tup ds, v => ∃ a xs, v = .ref a ∧ SqT K I a xs ∧ Rps K I ds xs
  | .lst ds, v => ∃ a xs, v = .ref a ∧ SqL K I a xs ∧ Rps K I ds xs
def Rps (K : PySem.W.Frag) (I : Hp) : List Dt → List V → Prop
  | [], xs => xs = []
  | d :: ds, xs => ∃ v vs, xs = v :: vs ∧ Rp K I d v ∧ Rps K I ds vs
end

theorem sqL_mono {K : PySem.W.Frag} {H H' : Hp} {a : Addr} {xs : List V} (e : Same H H') (h : SqL K H a xs) : SqL K H' a xs := by
  rcases h with (h | ⟨o, h⟩) | h
  · exact .inl (.inl (e _ _ h))
  · exact .inl (.inr ⟨o, e _ _ h⟩)
  · exact .inr h
theorem sqT_mono {K : PySem.W.Frag} {H H' : Hp} {a : Addr} {xs : List V} (e : Same H H') (h : SqT K H a xs) : SqT K H' a xs := by
  rcases h with (h | ⟨o, h⟩) | h
  · exact .inl (.inl (e _ _ h))
  · exact .inl (.inr ⟨o, e _ _ h⟩)
  · exact .inr h
mutual
theorem Rp.mono {K : PySem.W.Frag} {I I' : Hp} (e : Same I I') : ∀ {d : Dt} {v : V}, Rp K I d v → Rp K I' d v
  | .non, _, h => h
  | .bl _, _, h => h
  | .int _, _, h => h
  | .str _, _, h => h
  | .ref _, _, h => h
  | .tup ds, _, h => by
    obtain ⟨a, xs, e1, h1, h2⟩ := h
    exact ⟨a, xs, e1, sqT_mono e h1, Rps.mono e h2⟩
  | .lst ds, _, h => by
    obtain ⟨a, xs, e1, h1, h2⟩ := h
    exact ⟨a, xs, e1, sqL_mono e h1, Rps.mono e h2⟩
theorem Rps.mono {K : PySem.W.Frag} {I I' : Hp} (e : Same I I') : ∀ {ds : List Dt} {vs : List V}, Rps K I ds vs → Rps K I' ds vs
  | [], _, h => h
  | d :: ds, _, h => by
    obtain ⟨v, vs, e1, h1, h2⟩ := h
    exact ⟨v, vs, e1, Rp.mono e h1, Rps.mono e h2⟩
end
section
variable {K : PySem.W.Frag} {I : Hp}
theorem Rps.length : ∀ {ds : List Dt} {vs : List V}, Rps K I ds vs → vs.length = ds.length
  | [], _, h => by cases (show _ = _ from h); rfl
  | d :: ds, _, ⟨v, vs, e1, h1, h2⟩ => by subst e1; simp [Rps.length h2]
theorem Rps.get : ∀ {ds : List Dt} {vs : List V} {i : Nat} {d : Dt}, Rps K I ds vs → ds[i]? = some d → ∃ v, vs[i]? = some v ∧ Rp K I d v
  | [], _, i, d, h, e => by simp at e
  | d :: ds, _, 0, _, ⟨v, vs, e1, h1, h2⟩, e => by
    subst e1
    simp at e
    subst e
    exact ⟨v, rfl, h1⟩
  | d :: ds, _, i + 1, _, ⟨v, vs, e1, h1, h2⟩, e => by
    subst e1
    obtain ⟨u, q1, q2⟩ := Rps.get (i := i) h2 (by simpa using e)
    exact ⟨u, by simpa using q1, q2⟩
theorem Rps.get' : ∀ {ds : List Dt} {vs : List V} {i : Nat} {v : V}, Rps K I ds vs → vs[i]? = some v → ∃ d, ds[i]? = some d ∧ Rp K I d v
  | [], _, i, d, h, e => by cases (show _ = _ from h); simp at e
  | d :: ds, _, 0, _, ⟨v, vs, e1, h1, h2⟩, e => by
    subst e1
    simp at e
    subst e
    exact ⟨d, rfl, h1⟩
  | d :: ds, _, i + 1, _, ⟨v, vs, e1, h1, h2⟩, e => by
    subst e1
    obtain ⟨u, q1, q2⟩ := Rps.get' (i := i) h2 (by simpa using e)
    exact ⟨u, by simpa using q1, q2⟩
theorem Rps.app : ∀ {ds es : List Dt} {vs us : List V}, Rps K I ds vs → Rps K I es us → Rps K I (ds ++ es) (vs ++ us)
  | [], _, _, _, h, h' => by cases (show _ = _ from h); exact h'
  | d :: ds, es, _, us, ⟨v, vs, e1, h1, h2⟩, h' => by
    subst e1
    exact ⟨v, vs ++ us, rfl, h1, Rps.app h2 h'⟩
theorem Rps.take : ∀ {ds : List Dt} {vs : List V} (n : Nat), Rps K I ds vs → Rps K I (ds.take n) (vs.take n)
  | [], _, n, h => by cases (show _ = _ from h); simp [Rps]
  | d :: ds, _, 0, ⟨v, vs, e1, h1, h2⟩ => by subst e1; simp [Rps]
  | d :: ds, _, n + 1, ⟨v, vs, e1, h1, h2⟩ => by
    subst e1
    exact ⟨v, vs.take n, rfl, h1, Rps.take n h2⟩
theorem Rps.drop : ∀ {ds : List Dt} {vs : List V} (n : Nat), Rps K I ds vs → Rps K I (ds.drop n) (vs.drop n)
  | [], _, n, h => by cases (show _ = _ from h); simp [Rps]
  | d :: ds, _, 0, h => h
  | d :: ds, _, n + 1, ⟨v, vs, e1, h1, h2⟩ => by
    subst e1
    exact Rps.drop n h2
theorem Rps.set : ∀ {ds : List Dt} {vs : List V} {d : Dt} {v : V} (n : Nat), Rps K I ds vs → Rp K I d v → Rps K I (ds.set n d) (vs.set n v)
  | [], _, _, _, n, h, _ => by cases (show _ = _ from h); simp [Rps]
  | d :: ds, _, _, u, 0, ⟨v, vs, e1, h1, h2⟩, h' => by
    subst e1
    exact ⟨u, vs, rfl, h', h2⟩
  | d :: ds, _, _, u, n + 1, ⟨v, vs, e1, h1, h2⟩, h' => by
    subst e1
    exact ⟨v, vs.set n u, rfl, h1, Rps.set n h2 h'⟩
theorem Rps.one {d : Dt} {v : V} (h : Rp K I d v) : Rps K I [d] [v] := ⟨v, [], rfl, h, rfl⟩
theorem Rps.rev : ∀ {ds : List Dt} {vs : List V}, Rps K I ds vs → Rps K I ds.reverse vs.reverse
  | [], _, h => by cases (show _ = _ from h); exact rfl
  | d :: ds, _, ⟨v, vs, e1, h1, h2⟩ => by
    subst e1
    rw [List.reverse_cons, List.reverse_cons]
    exact Rps.app (Rps.rev h2) (Rps.one h1)
theorem Rps.ints : ∀ {ns : List Int} {vs : List V}, Rps K I (ns.map Dt.int) vs → vs = ns.map V.int
  | [], _, h => h
  | n :: ns, _, ⟨v, vs, e1, h1, h2⟩ => by
    subst e1
    cases (show v = _ from h1)
    rw [Rps.ints h2]
    rfl
theorem Rps.of_ints : ∀ (ns : List Int), Rps K I (ns.map Dt.int) (ns.map V.int)
  | [] => rfl
  | n :: ns => ⟨.int n, ns.map V.int, rfl, rfl, Rps.of_ints ns⟩
theorem Rps.bls : ∀ {ns : List Bool} {vs : List V}, Rps K I (ns.map Dt.bl) vs → vs = ns.map V.bl
  | [], _, h => h
  | n :: ns, _, ⟨v, vs, e1, h1, h2⟩ => by
    subst e1
    cases (show v = _ from h1)
    rw [Rps.bls h2]
    rfl
theorem Rps.strs : ∀ {ns : List Str} {vs : List V}, Rps K I (ns.map Dt.str) vs → vs = ns.map V.str
  | [], _, h => h
  | n :: ns, _, ⟨v, vs, e1, h1, h2⟩ => by
    subst e1
    cases (show v = _ from h1)
    rw [Rps.strs h2]
    rfl
end

/-! ### mutable objects -/
inductive Cell where
  | lst (ds : List Dt)
  | ins (C : Addr) (fs : List (Str × Dt))
abbrev Cells := Addr → Option Cell
def Cells.put (S : Cells) (a : Addr) (c : Cell) : Cells := fun b => if b = a then some c else S b
def Cells.del (S : Cells) (a : Addr) : Cells := fun b => if b = a then none else S b
theorem Cells.put_same {S : Cells} {a : Addr} {c : Cell} : S.put a c a = some c := if_pos rfl
theorem Cells.put_ne {S : Cells} {a b : Addr} {c : Cell} (h : b ≠ a) : S.put a c b = S b := if_neg h
theorem Cells.put_put {S : Cells} {a : Addr} {c d : Cell} : (S.put a c).put a d = S.put a d := by
  funext b
  unfold Cells.put
  by_cases h : b = a
  · rw [if_pos h, if_pos h]
  · rw [if_neg h, if_neg h, if_neg h]
theorem Cells.ne_new {S : Cells} {a b : Addr} {c : Cell} (h : S a = some c) (h' : S b = none) : a ≠ b := fun e => by
  rw [e, h'] at h
  cases h
/-- the immutable part -/
def wo (S : Cells) (H : Hp) : Hp := fun a => if (S a).isSome = true then none else H a
theorem wo_none {S : Cells} {H : Hp} {a : Addr} (h : S a = none) : wo S H a = H a := by
  unfold wo
  rw [h]
  exact if_neg (by decide)
theorem wo_some {S : Cells} {H : Hp} {a : Addr} {c : Cell} (h : S a = some c) : wo S H a = none := by
  unfold wo
  rw [h]
  exact if_pos rfl
theorem wo_le {S : Cells} {H : Hp} : Same (wo S H) H := fun a o h => by
  cases e : S a with
  | none => rw [wo_none e] at h; exact h
  | some c => rw [wo_some e] at h; cases h
def Rfs (K : PySem.W.Frag) (I : Hp) : List (Str × Dt) → List (Str × V) → Prop
  | [], vs => vs = []
  | (x, d) :: fs, vs => ∃ v r, vs = (x, v) :: r ∧ Rp K I d v ∧ Rfs K I fs r
theorem Rfs.mono {K : PySem.W.Frag} {I I' : Hp} (e : Same I I') : ∀ {fs : List (Str × Dt)} {vs : List (Str × V)}, Rfs K I fs vs → Rfs K I' fs vs
  | [], _, h => h
  | (x, d) :: fs, _, ⟨v, r, e1, h1, h2⟩ => ⟨v, r, e1, h1.mono e, Rfs.mono e h2⟩
def CellOk (K : PySem.W.Frag) (I H : Hp) (a : Addr) : Cell → Prop
  | .lst ds => ∃ xs, H a = some (.lst xs) ∧ Rps K I ds xs
  | .ins C fs => ∃ dx vs, H a = some (.ins C dx vs) ∧ Rfs K I fs vs
def Wd (K : PySem.W.Frag) (S : Cells) (H : Hp) : Prop := ∀ a c, S a = some c → CellOk K (wo S H) H a c

section
variable {K : PySem.W.Frag} {S S' : Cells} {H H' : Hp} {p a : Addr} {o : HO} {ds es : List Dt} {xs : List V}
theorem CellOk.some {c : Cell} {I : Hp} (h : CellOk K I H a c) : ∃ o, H a = some o := by
  cases c with
  | lst ds => obtain ⟨xs, h1, _⟩ := h; exact ⟨_, h1⟩
  | ins C fs => obtain ⟨dx, vs, h1, _⟩ := h; exact ⟨_, h1⟩
theorem CellOk.mono {c : Cell} {I I' : Hp} (e : Same I I') (e2 : H' a = H a) (h : CellOk K I H a c) : CellOk K I' H' a c := by
  cases c with
  | lst ds => obtain ⟨xs, h1, h2⟩ := h; exact ⟨xs, e2.trans h1, h2.mono e⟩
  | ins C fs => obtain ⟨dx, vs, h1, h2⟩ := h; exact ⟨dx, vs, e2.trans h1, h2.mono e⟩
theorem Wd.free (w : Wd K S H) (h : H p = none) : S p = none := by
  cases e : S p with
  | none => rfl
  | some c =>
    obtain ⟨o, q⟩ := (w p c e).some
    rw [h] at q
    cases q
/-- a new immutable object -/
theorem new_same (w : Wd K S H) (h : H p = none) : Same (wo S H) (wo S (upd H p o)) := fun a u e => by
  have hS := w.free h
  by_cases ha : a = p
  · subst ha
    rw [wo_none hS, h] at e
    cases e
  · cases q : S a with
    | none => rw [wo_none q] at e ⊢; rw [upd_ne ha]; exact e
    | some c => rw [wo_some q] at e; cases e
theorem new_wd (w : Wd K S H) (h : H p = none) : Wd K S (upd H p o) := fun a c e => by
  have ha : a ≠ p := fun q => by
    rw [q, w.free h] at e
    cases e
  exact (w a c e).mono (new_same w h) (upd_ne ha)
theorem new_at (w : Wd K S H) (h : H p = none) : wo S (upd H p o) p = some o := by
  rw [wo_none (w.free h)]
  exact upd_same
/-- a cell changes, or a new one comes: the immutable part is as it was -/
theorem put_wo (c : Cell) (h : S p ≠ none ∨ H p = none) : wo (S.put p c) (upd H p o) = wo S H := by
  funext a
  by_cases ha : a = p
  · subst ha
    rw [wo_some (Cells.put_same)]
    rcases h with h | h
    · cases e : S a with
      | none => exact absurd e h
      | some c => rw [wo_some e]
    · cases e : S a with
      | none => rw [wo_none e, h]
      | some c => rw [wo_some e]
  · cases e : S a with
    | none => rw [wo_none e, wo_none (by rw [Cells.put_ne ha]; exact e), upd_ne ha]
    | some c => rw [wo_some e, wo_some (by rw [Cells.put_ne ha]; exact e)]
theorem put_wd (w : Wd K S H) {c : Cell} (h : S p ≠ none ∨ H p = none) (hc : CellOk K (wo S H) (upd H p o) p c) : Wd K (S.put p c) (upd H p o) := fun a c' e => by
  rw [put_wo c h]
  by_cases ha : a = p
  · subst ha
    rw [Cells.put_same] at e
    cases e
    exact hc
  · rw [Cells.put_ne ha] at e
    exact (w a c' e).mono (Same.refl _) (upd_ne ha)
/-- a list is changed no more -/
theorem froz_same : Same (wo S H) (wo (S.del p) H) := fun a o e => by
  have ha : S a = none := by
    cases q : S a with
    | none => rfl
    | some c => rw [wo_some q] at e; cases e
  rw [wo_none ha] at e
  have hd : S.del p a = none := by
    unfold Cells.del
    by_cases q : a = p
    · rw [if_pos q]
    · rw [if_neg q]; exact ha
  rw [wo_none hd]
  exact e
theorem froz_wd (w : Wd K S H) : Wd K (S.del p) H := fun a c e => by
  have ha : a ≠ p := fun q => by
    unfold Cells.del at e
    rw [if_pos q] at e
    cases e
  have e' : S a = some c := by
    unfold Cells.del at e
    rw [if_neg ha] at e
    exact e
  exact (w a c e').mono froz_same rfl
theorem froz_at (w : Wd K S H) (h : S p = some (.lst ds)) : Rp K (wo (S.del p) H) (.lst ds) (.ref p) := by
  obtain ⟨xs, h1, h2⟩ := w p _ h
  refine ⟨p, xs, rfl, SqL.of ?_, h2.mono froz_same⟩
  rw [wo_none (if_pos rfl)]
  exact h1
end
end Sc

namespace Sc
open PySem PySem.Spec PyProof.Rows L2
/-! ### judgements over data -/
abbrev Ds := List (Option Dt)
def Rs (K : PySem.W.Frag) (I : Hp) (ds : Ds) (σ : L2.St) : Prop := ds.length = σ.length ∧ ∀ (i : Nat) (d : Dt), ds[i]? = some (some d) → ∃ v, σ[i]? = some (some v) ∧ Rp K I d v
abbrev XK2 := Addr → Ds → Cells → Prop
abbrev QE := Dt → Cells → Prop
abbrev TE2 := XK2 → Ds → Cells → QE → Prop
abbrev TT2 := XK2 → Ds → Cells → (Bool → Cells → Prop) → Prop
abbrev TA2 := XK2 → Ds → Cells → (List Dt → Cells → Prop) → Prop
structure Ends2 where
  nx : Ds → Cells → Prop
  rt : QE
  bk : Ds → Cells → Prop := fun _ _ => False
  ct : Ds → Cells → Prop := fun _ _ => False
abbrev TS2 := XK2 → Ends2 → Ds → Cells → Prop
structure Ends2.Le (D D' : Ends2) : Prop where
  nx : ∀ ds S, D.nx ds S → D'.nx ds S
  rt : ∀ d S, D.rt d S → D'.rt d S
  bk : ∀ ds S, D.bk ds S → D'.bk ds S
  ct : ∀ ds S, D.ct ds S → D'.ct ds S
theorem Ends2.Le.refl (D : Ends2) : D.Le D := ⟨fun _ _ h => h, fun _ _ h => h, fun _ _ h => h, fun _ _ h => h⟩

/-- from one world to the next -/
structure Step (K : PySem.W.Frag) (S : Cells) (H : Hp) (S' : Cells) (H' : Hp) : Prop where
  same : Same (wo S H) (wo S' H')
  wd : Wd K S' H'
theorem Step.trans {K : PySem.W.Frag} {S S1 S2 : Cells} {H H1 H2 : Hp} (a : Step K S H S1 H1) (b : Step K S1 H1 S2 H2) : Step K S H S2 H2 := ⟨a.same.trans b.same, b.wd⟩
def up (K : PySem.W.Frag) (S : Cells) (H : Hp) (Q : VK) : QE := fun d S' => ∀ v H', Step K S H S' H' → Rp K (wo S' H') d v → Q v H'
def upB (K : PySem.W.Frag) (S : Cells) (H : Hp) (Q : Bool → Hp → Prop) : Bool → Cells → Prop := fun b S' => ∀ H', Step K S H S' H' → Q b H'
def upA (K : PySem.W.Frag) (S : Cells) (H : Hp) (Q : List V → Hp → Prop) : List Dt → Cells → Prop := fun d S' => ∀ v H', Step K S H S' H' → Rps K (wo S' H') d v → Q v H'
def upS (K : PySem.W.Frag) (S : Cells) (H : Hp) (Q : L2.St → Hp → Prop) : Ds → Cells → Prop := fun ds S' => ∀ σ' H', Step K S H S' H' → Rs K (wo S' H') ds σ' → Q σ' H'
def upD (K : PySem.W.Frag) (S : Cells) (H : Hp) (D : Ends) : Ends2 := ⟨upS K S H D.nx, up K S H D.rt, upS K S H D.bk, upS K S H D.ct⟩
def upX (K : PySem.W.Frag) (S : Cells) (H : Hp) (W : WX) : XK2 := fun C ds S' => ∀ σ' H', Step K S H S' H' → Rs K (wo S' H') ds σ' → W (.ref C) none σ' H'
/-- where one stands -/
structure Here (K : PySem.W.Frag) (W : WX) (x : XK2) (ds : Ds) (S : Cells) (σ : L2.St) (H : Hp) : Prop where
  rs : Rs K (wo S H) ds σ
  wd : Wd K S H
  xe : ∀ C ds' S', x C ds' S' → upX K S H W C ds' S'
theorem Rs.mono {K : PySem.W.Frag} {I I' : Hp} {ds : Ds} {σ : L2.St} (h : Rs K I ds σ) (e : Same I I') : Rs K I' ds σ := ⟨h.1, fun i d q => by
  obtain ⟨v, h1, h2⟩ := h.2 i d q
  exact ⟨v, h1, h2.mono e⟩⟩
section
variable {K : PySem.W.Frag} {W : WX} {x : XK2} {ds : Ds} {S S' S1 : Cells} {σ : L2.St} {H H' H1 : Hp}
theorem Here.step (h : Here K W x ds S σ H) (s : Step K S H S' H') : Here K W x ds S' σ H' := ⟨h.rs.mono s.same, s.wd, fun C ds' S1 q σ' H1 s1 r => h.xe C ds' S1 q σ' H1 (s.trans s1) r⟩
theorem Here.refl (h : Here K W x ds S σ H) : Step K S H S H := ⟨Same.refl _, h.wd⟩
theorem Rs.set {I : Hp} {i : Nat} {d : Dt} {v : V} (h : Rs K I ds σ) (r : Rp K I d v) : Rs K I (ds.set i (some d)) (σ.set i (some v)) := by
  refine ⟨by rw [List.length_set, List.length_set]; exact h.1, fun j e q => ?_⟩
  by_cases hj : i = j
  · subst hj
    by_cases hl : i < ds.length
    · rw [List.getElem?_set_self hl] at q
      cases q
      exact ⟨v, List.getElem?_set_self (by rw [← h.1]; exact hl), r⟩
    · rw [List.getElem?_eq_none (by rw [List.length_set]; omega)] at q
      cases q
  · rw [List.getElem?_set_ne hj] at q
    obtain ⟨u, h1, h2⟩ := h.2 j e q
    exact ⟨u, by rw [List.getElem?_set_ne hj]; exact h1, h2⟩
theorem Here.set {i : Nat} {d : Dt} {v : V} (h : Here K W x ds S σ H) (r : Rp K (wo S H) d v) : Here K W x (ds.set i (some d)) S (σ.set i (some v)) H := ⟨h.rs.set r, h.wd, h.xe⟩
theorem up.step {Q : VK} {d : Dt} {S2 : Cells} (s : Step K S H S1 H1) (q : up K S H Q d S2) : up K S1 H1 Q d S2 := fun v H' s' r => q v H' (s.trans s') r
theorem upB.step {Q : Bool → Hp → Prop} {d : Bool} {S2 : Cells} (s : Step K S H S1 H1) (q : upB K S H Q d S2) : upB K S1 H1 Q d S2 := fun H' s' => q H' (s.trans s')
theorem upA.step {Q : List V → Hp → Prop} {d : List Dt} {S2 : Cells} (s : Step K S H S1 H1) (q : upA K S H Q d S2) : upA K S1 H1 Q d S2 := fun v H' s' r => q v H' (s.trans s') r
theorem upS.step {Q : L2.St → Hp → Prop} {d : Ds} {S2 : Cells} (s : Step K S H S1 H1) (q : upS K S H Q d S2) : upS K S1 H1 Q d S2 := fun v H' s' r => q v H' (s.trans s') r
theorem upD.step {D : Ends} (s : Step K S H S1 H1) : (upD K S H D).Le (upD K S1 H1 D) := ⟨fun _ _ q => q.step s, fun _ _ q => q.step s, fun _ _ q => q.step s, fun _ _ q => q.step s⟩
end

structure E2 (X : Cx) (W : WX) (e : Expr) (T : TE2) : Prop where
  mono : ∀ x ds S Q Q', (∀ d S', Q d S' → Q' d S') → T x ds S Q → T x ds S Q'
  run : ∃ t, PE X e t ∧ ∀ x ds S σ H Q, Here X.K W x ds S σ H → T x ds S (up X.K S H Q) → t σ H Q
structure T2 (X : Cx) (W : WX) (e : Expr) (T : TT2) : Prop where
  mono : ∀ x ds S Q Q', (∀ d S', Q d S' → Q' d S') → T x ds S Q → T x ds S Q'
  run : ∃ t, PT X e t ∧ ∀ x ds S σ H Q, Here X.K W x ds S σ H → T x ds S (upB X.K S H Q) → t σ H Q
structure W2 (X : Cx) (W : WX) (e : Expr) (T : TT2) : Prop where
  mono : ∀ x ds S Q Q', (∀ d S', Q d S' → Q' d S') → T x ds S Q → T x ds S Q'
  run : ∃ t, PW X e t ∧ ∀ x ds S σ H Q, Here X.K W x ds S σ H → T x ds S (upB X.K S H Q) → t σ H Q
structure A2 (X : Cx) (W : WX) (es : List Expr) (T : TA2) : Prop where
  mono : ∀ x ds S Q Q', (∀ d S', Q d S' → Q' d S') → T x ds S Q → T x ds S Q'
  run : ∃ t, PA X es t ∧ ∀ x ds S σ H Q, Here X.K W x ds S σ H → T x ds S (upA X.K S H Q) → t σ H Q
structure S2 (X : Cx) (W : WX) (st : Stmt) (T : TS2) : Prop where
  mono : ∀ x ds S D D', Ends2.Le D D' → T x D ds S → T x D' ds S
  run : ∃ t, PS X st t ∧ ∀ x ds S σ H D, Here X.K W x ds S σ H → T x (upD X.K S H D) ds S → t D σ H
structure B2 (X : Cx) (W : WX) (st : List Stmt) (T : TS2) : Prop where
  mono : ∀ x ds S D D', Ends2.Le D D' → T x D ds S → T x D' ds S
  run : ∃ t, PSs X st t ∧ ∀ x ds S σ H D, Here X.K W x ds S σ H → T x (upD X.K S H D) ds S → t D σ H
theorem W2.t {X : Cx} {W : WX} {e : Expr} {T : TT2} (h : W2 X W e T) : T2 X W e T := ⟨h.mono, by
  obtain ⟨t, h1, h2⟩ := h.run
  exact ⟨t, h1.pt, h2⟩⟩

section
variable {X : Cx} {W : WX} {a b c e : Expr} {es : List Expr} {Ta Tb Tc Te : TE2} {Tt Tu : TT2} {TA : TA2} {pos : Pos}
/-! ### names, constants -/
def dVar (i : Nat) : TE2 := fun _ ds S Q => ∃ d, ds[i]? = some (some d) ∧ Q d S
def dC (d : Dt) : TE2 := fun _ _ S Q => Q d S
theorem ev (i : Nat) {x : Str} {pos : Pos} (hN : X.N[i]? = some x := by rfl) (hv : Vis X.env.scope x := by first | exact Or.inl rfl | exact Or.inr (Or.inl rfl) | exact Or.inr (Or.inr rfl)) (hd : (x == ("__debug__" : Str)) = false := by decide)
    (hcd : (x == ("__classdict__" : Str)) = false := by decide) : E2 X W (.Name x pos) (dVar i) := ⟨fun _ _ _ _ _ h ⟨d, e, q⟩ => ⟨d, e, h _ _ q⟩, _, pe_var hN hv hd hcd, fun x ds S σ H Q h ⟨d, e, q⟩ => by
  obtain ⟨v, h1, h2⟩ := h.rs.2 i d e
  exact ⟨v, h1, q v H h.refl h2⟩⟩
theorem e_int {i j pos} : E2 X W (.Constant (.int i) j pos) (dC (.int i)) := ⟨fun _ _ _ _ _ h q => h _ _ q, _, pe_int, fun x ds S σ H Q h q => q _ H h.refl rfl⟩
theorem e_bl {b j pos} : E2 X W (.Constant (.bool b) j pos) (dC (.bl b)) := ⟨fun _ _ _ _ _ h q => h _ _ q, _, pe_bl, fun x ds S σ H Q h q => q _ H h.refl rfl⟩
theorem e_non {j pos} : E2 X W (.Constant .none j pos) (dC .non) := ⟨fun _ _ _ _ _ h q => h _ _ q, _, pe_non, fun x ds S σ H Q h q => q _ H h.refl rfl⟩
theorem e_str {z j pos} : E2 X W (.Constant (.str z) j pos) (dC (.str z)) := ⟨fun _ _ _ _ _ h q => h _ _ q, _, pe_str, fun x ds S σ H Q h q => q _ H h.refl rfl⟩
theorem e_globI {x : Str} {i : Int} {pos : Pos} (hm : ∃ t, X.mg x = some (.int i t)) (hg : Gl X x := by rfl) (hd : (x == ("__debug__" : Str)) = false := by decide) : E2 X W (.Name x pos) (dC (.int i)) := ⟨fun _ _ _ _ _ h q => h _ _ q, by
  obtain ⟨t, hm⟩ := hm
  exact ⟨_, pe_glob (v := .int i) hg hm ⟨t, rfl⟩ hd, fun x ds S σ H Q h q => q _ H h.refl rfl⟩⟩
/-- a def or class of the module as a value -/
theorem e_globR {x : Str} {f : Addr} {pos : Pos} (hm : X.mg x = some (.ref f)) (hg : Gl X x := by rfl) (hd : (x == ("__debug__" : Str)) = false := by decide) : E2 X W (.Name x pos) (dC (.ref f)) := ⟨fun _ _ _ _ _ h q => h _ _ q,
  _, pe_glob (v := .ref f) hg hm rfl hd, fun x ds S σ H Q h q => q _ H h.refl rfl⟩

/-! ### operations on values -/
abbrev QO := Dt → Dt → Cells → QE → Prop
/-- a two-place operation -/
structure O2 (X : Cx) (f : Value → Value → Sem Value) (q : QO) : Prop where
  mono : ∀ d e S Q Q', (∀ d S', Q d S' → Q' d S') → q d e S Q → q d e S Q'
  run : ∃ r, OpR X f r ∧ ∀ d e v u S H Q, Wd X.K S H → Rp X.K (wo S H) d v → Rp X.K (wo S H) e u → q d e S (up X.K S H Q) → r v u H Q
def dOp (q : QO) (Ta Tb : TE2) : TE2 := fun x ds S Q => Ta x ds S fun d S1 => Tb x ds S1 fun e S2 => q d e S2 Q
theorem dOp.mono {q : QO} (hq : ∀ d e S Q Q', (∀ d S', Q d S' → Q' d S') → q d e S Q → q d e S Q') (ha : E2 X W a Ta) (hb : E2 X W b Tb) : ∀ x ds S Q Q', (∀ d S', Q d S' → Q' d S') → dOp q Ta Tb x ds S Q → dOp q Ta Tb x ds S Q' :=
  fun x ds S Q Q' h p => ha.mono x ds S _ _ (fun d S1 p1 => hb.mono x ds S1 _ _ (fun e S2 p2 => hq d e S2 Q Q' h p2) p1) p
theorem dOp.run {q : QO} {r : R2} {ta tb : TE} (hq : ∀ d e v u S H Q, Wd X.K S H → Rp X.K (wo S H) d v → Rp X.K (wo S H) e u → q d e S (up X.K S H Q) → r v u H Q) (qm : ∀ d e S Q Q', (∀ d S', Q d S' → Q' d S') → q d e S Q → q d e S Q')
    (ma : ∀ x ds S Q Q', (∀ d S', Q d S' → Q' d S') → Ta x ds S Q → Ta x ds S Q') (mb : ∀ x ds S Q Q', (∀ d S', Q d S' → Q' d S') → Tb x ds S Q → Tb x ds S Q')
    (ha : ∀ x ds S σ H Q, Here X.K W x ds S σ H → Ta x ds S (up X.K S H Q) → ta σ H Q) (hb : ∀ x ds S σ H Q, Here X.K W x ds S σ H → Tb x ds S (up X.K S H Q) → tb σ H Q) :
    ∀ x ds S σ H Q, Here X.K W x ds S σ H → dOp q Ta Tb x ds S (up X.K S H Q) → tOp r ta tb σ H Q := fun x ds S σ H Q h p => by
  refine ha x ds S σ H _ h (ma x ds S _ _ (fun d S1 p1 v H1 s1 r1 => ?_) p)
  refine hb x ds S1 σ H1 _ (h.step s1) (mb x ds S1 _ _ (fun e S2 p2 u H2 s2 r2 => ?_) p1)
  exact hq d e v u S2 H2 Q s2.wd (r1.mono s2.same) r2 (qm d e S2 _ _ (fun z S3 q3 => q3.step (s1.trans s2)) p2)
theorem e_op {op : Operator} {q : QO} (ho : O2 X (binaryOp op) q) (ha : E2 X W a Ta) (hb : E2 X W b Tb) : E2 X W (.BinOp a op b pos) (dOp q Ta Tb) := ⟨dOp.mono ho.mono ha hb, by
  obtain ⟨ta, pa, ra⟩ := ha.run
  obtain ⟨tb, pb, rb⟩ := hb.run
  obtain ⟨r, po, rr⟩ := ho.run
  exact ⟨_, pe_op po pa pb, dOp.run rr ho.mono ha.mono hb.mono ra rb⟩⟩
theorem e_cmp {op : CmpOp} {q : QO} (ho : O2 X (compareOp op) q) (ha : E2 X W a Ta) (hb : E2 X W b Tb) (hm : behindInMarks op b = false := by first | exact nomark _ | rfl | with_unfolding_all rfl) : E2 X W (.Compare a [op] [b] pos) (dOp q Ta Tb) := ⟨dOp.mono ho.mono ha hb, by
  obtain ⟨ta, pa, ra⟩ := ha.run
  obtain ⟨tb, pb, rb⟩ := hb.run
  obtain ⟨r, po, rr⟩ := ho.run
  exact ⟨_, pe_cmpR po pa pb hm, dOp.run rr ho.mono ha.mono hb.mono ra rb⟩⟩
/-- an expression's value as a test -/
def dTest (T : TE2) : TT2 := fun x ds S Q => T x ds S fun d S1 => ∃ k, d = .bl k ∧ Q k S1
theorem dTest.mono {T : TE2} (h : ∀ x ds S Q Q', (∀ d S', Q d S' → Q' d S') → T x ds S Q → T x ds S Q') : ∀ x ds S Q Q', (∀ d S', Q d S' → Q' d S') → dTest T x ds S Q → dTest T x ds S Q' :=
  fun x ds S Q Q' hq p => h x ds S _ _ (fun d S1 ⟨k, e, q⟩ => ⟨k, e, hq _ _ q⟩) p
theorem dTest.run {T : TE2} {t : TE} (hm : ∀ x ds S Q Q', (∀ d S', Q d S' → Q' d S') → T x ds S Q → T x ds S Q') (h : ∀ x ds S σ H Q, Here X.K W x ds S σ H → T x ds S (up X.K S H Q) → t σ H Q) :
    ∀ x ds S σ H Q, Here X.K W x ds S σ H → dTest T x ds S (upB X.K S H Q) → tTest t σ H Q := fun x ds S σ H Q hh p =>
  h x ds S σ H _ hh (hm x ds S _ _ (fun d S1 ⟨k, e, q⟩ v H1 s r => by
    subst e
    exact ⟨k, r, q H1 s⟩) p)
theorem t_cmp {op : CmpOp} {q : QO} (ho : O2 X (compareOp op) q) (ha : E2 X W a Ta) (hb : E2 X W b Tb) (hm : behindInMarks op b = false := by first | exact nomark _ | rfl | with_unfolding_all rfl) : T2 X W (.Compare a [op] [b] pos) (dTest (dOp q Ta Tb)) := ⟨dTest.mono (dOp.mono ho.mono ha hb), by
  obtain ⟨ta, pa, ra⟩ := ha.run
  obtain ⟨tb, pb, rb⟩ := hb.run
  obtain ⟨r, po, rr⟩ := ho.run
  exact ⟨_, pt_cmpR po pa pb hm, dTest.run (dOp.mono ho.mono ha hb) (dOp.run rr ho.mono ha.mono hb.mono ra rb)⟩⟩
theorem t_val (he : E2 X W e Te) (hs : ∀ whole, isTrue e X.env whole = (do let v ← whole; standAt e.pos; holding [v] (truthy v)) := by intro _; rfl) : T2 X W e (dTest Te) := ⟨dTest.mono he.mono, by
  obtain ⟨t, p, r⟩ := he.run
  exact ⟨_, pt_val p hs, dTest.run he.mono r⟩⟩
/-! a chain of comparisons -/
def dChain (q q' : QO) (Ta Tb Tc : TE2) : TE2 := fun x ds S Q => Ta x ds S fun d S1 => Tb x ds S1 fun e S2 => q d e S2 fun z S3 => ∃ k, z = .bl k ∧ if k = true then Tc x ds S3 fun f S4 => q' e f S4 Q else Q (.bl false) S3
theorem ite_mono {c : Prop} [Decidable c] {A B A' B' : Prop} (h : if c then A else B) (ha : A → A') (hb : B → B') : if c then A' else B' := by
  by_cases q : c
  · rw [if_pos q] at h ⊢
    exact ha h
  · rw [if_neg q] at h ⊢
    exact hb h
theorem e_chain {op op' : CmpOp} {q q' : QO} (ho : O2 X (compareOp op) q) (ho' : O2 X (compareOp op') q') (ha : E2 X W a Ta) (hb : E2 X W b Tb) (hc : E2 X W c Tc)
    (hm : lastMarks [op, op'] [b, c] = false := by with_unfolding_all rfl) : E2 X W (.Compare a [op, op'] [b, c] pos) (dChain q q' Ta Tb Tc) := by
  have mono : ∀ x ds S Q Q', (∀ d S', Q d S' → Q' d S') → dChain q q' Ta Tb Tc x ds S Q → dChain q q' Ta Tb Tc x ds S Q' := fun x ds S Q Q' h p =>
    ha.mono x ds S _ _ (fun d S1 p1 => hb.mono x ds S1 _ _ (fun e S2 p2 => ho.mono d e S2 _ _ (fun z S3 ⟨k, e1, p3⟩ => ⟨k, e1, ite_mono p3 (fun p3 => hc.mono x ds S3 _ _ (fun f S4 p4 => ho'.mono e f S4 Q Q' h p4) p3) (fun p3 => h _ _ p3)⟩) p2) p1) p
  refine ⟨mono, ?_⟩
  obtain ⟨ta, pa, ra⟩ := ha.run
  obtain ⟨tb, pb, rb⟩ := hb.run
  obtain ⟨tc, pc, rc⟩ := hc.run
  obtain ⟨r, po, rr⟩ := ho.run
  obtain ⟨r', po', rr'⟩ := ho'.run
  refine ⟨_, pe_chain po po' pa pb pc hm, fun x ds S σ H Q h p => ?_⟩
  refine ra x ds S σ H _ h (ha.mono x ds S _ _ (fun d S1 p1 v H1 s1 r1 => ?_) p)
  refine rb x ds S1 σ H1 _ (h.step s1) (hb.mono x ds S1 _ _ (fun e S2 p2 u H2 s2 r2 => ?_) p1)
  refine rr d e v u S2 H2 _ s2.wd (r1.mono s2.same) r2 (ho.mono d e S2 _ _ (fun z S3 ⟨k, e1, p3⟩ z' H3 s3 r3 => ?_) p2)
  subst e1
  refine ⟨k, r3, ?_⟩
  have s123 := s1.trans (s2.trans s3)
  refine ite_mono p3 (fun p3 => ?_) (fun p3 => p3 _ _ s123 rfl)
  refine rc x ds S3 σ H3 _ (h.step s123) (hc.mono x ds S3 _ _ (fun f S4 p4 w' H4 s4 r4 => ?_) p3)
  exact rr' e f u w' S4 H4 Q s4.wd (r2.mono (s3.trans s4).same) r4 (ho'.mono e f S4 _ _ (fun z S5 q5 => q5.step (s123.trans s4)) p4)
theorem t_chain {op op' : CmpOp} {q q' : QO} (ho : O2 X (compareOp op) q) (ho' : O2 X (compareOp op') q') (ha : E2 X W a Ta) (hb : E2 X W b Tb) (hc : E2 X W c Tc)
    (hm : lastMarks [op, op'] [b, c] = false := by with_unfolding_all rfl) : T2 X W (.Compare a [op, op'] [b, c] pos) (dTest (dChain q q' Ta Tb Tc)) := by
  have h0 := e_chain (pos := pos) ho ho' ha hb hc hm
  refine ⟨dTest.mono h0.mono, ?_⟩
  obtain ⟨ta, pa, ra⟩ := ha.run
  obtain ⟨tb, pb, rb⟩ := hb.run
  obtain ⟨tc, pc, rc⟩ := hc.run
  obtain ⟨r, po, rr⟩ := ho.run
  obtain ⟨r', po', rr'⟩ := ho'.run
  refine ⟨_, pt_chain po po' pa pb pc hm, dTest.run h0.mono fun x ds S σ H Q h p => ?_⟩
  refine ra x ds S σ H _ h (ha.mono x ds S _ _ (fun d S1 p1 v H1 s1 r1 => ?_) p)
  refine rb x ds S1 σ H1 _ (h.step s1) (hb.mono x ds S1 _ _ (fun e S2 p2 u H2 s2 r2 => ?_) p1)
  refine rr d e v u S2 H2 _ s2.wd (r1.mono s2.same) r2 (ho.mono d e S2 _ _ (fun z S3 ⟨k, e1, p3⟩ z' H3 s3 r3 => ?_) p2)
  subst e1
  refine ⟨k, r3, ?_⟩
  have s123 := s1.trans (s2.trans s3)
  refine ite_mono p3 (fun p3 => ?_) (fun p3 => p3 _ _ s123 rfl)
  refine rc x ds S3 σ H3 _ (h.step s123) (hc.mono x ds S3 _ _ (fun f S4 p4 w' H4 s4 r4 => ?_) p3)
  exact rr' e f u w' S4 H4 Q s4.wd (r2.mono (s3.trans s4).same) r4 (ho'.mono e f S4 _ _ (fun z S5 q5 => q5.step (s123.trans s4)) p4)

/-! ### and, or, not, if -/
variable {rest : List Expr}
def dAnd (T U : TT2) : TT2 := fun x ds S Q => T x ds S fun k S1 => if k = true then U x ds S1 Q else Q false S1
def dOr (T U : TT2) : TT2 := fun x ds S Q => T x ds S fun k S1 => if k = true then Q true S1 else U x ds S1 Q
def dNot (T : TT2) : TT2 := fun x ds S Q => T x ds S fun k S1 => Q (!k) S1
theorem w_and1 (h : T2 X W a Tt) : W2 X W (.BoolOp .And [a] pos) Tt := ⟨h.mono, by
  obtain ⟨t, p, r⟩ := h.run
  exact ⟨t, pw_and1 p, r⟩⟩
theorem w_or1 (h : T2 X W a Tt) : W2 X W (.BoolOp .Or [a] pos) Tt := ⟨h.mono, by
  obtain ⟨t, p, r⟩ := h.run
  exact ⟨t, pw_or1 p, r⟩⟩
theorem w_and (ha : T2 X W a Tt) (hb : W2 X W (.BoolOp .And (b :: rest) pos) Tu) : W2 X W (.BoolOp .And (a :: b :: rest) pos) (dAnd Tt Tu) := ⟨fun x ds S Q Q' h p =>
    ha.mono x ds S _ _ (fun k S1 p1 => ite_mono p1 (fun p1 => hb.mono x ds S1 _ _ h p1) (fun p1 => h _ _ p1)) p, by
  obtain ⟨t, p, r⟩ := ha.run
  obtain ⟨u, p', r'⟩ := hb.run
  refine ⟨_, pw_and p p', fun x ds S σ H Q h q => ?_⟩
  refine r x ds S σ H _ h (ha.mono x ds S _ _ (fun k S1 p1 H1 s1 => ?_) q)
  exact ite_mono p1 (fun p1 => r' x ds S1 σ H1 _ (h.step s1) (hb.mono x ds S1 _ _ (fun b S2 q2 => q2.step s1) p1)) (fun p1 => p1 _ s1)⟩
theorem w_or (ha : T2 X W a Tt) (hb : W2 X W (.BoolOp .Or (b :: rest) pos) Tu) : W2 X W (.BoolOp .Or (a :: b :: rest) pos) (dOr Tt Tu) := ⟨fun x ds S Q Q' h p =>
    ha.mono x ds S _ _ (fun k S1 p1 => ite_mono p1 (fun p1 => h _ _ p1) (fun p1 => hb.mono x ds S1 _ _ h p1)) p, by
  obtain ⟨t, p, r⟩ := ha.run
  obtain ⟨u, p', r'⟩ := hb.run
  refine ⟨_, pw_or p p', fun x ds S σ H Q h q => ?_⟩
  refine r x ds S σ H _ h (ha.mono x ds S _ _ (fun k S1 p1 H1 s1 => ?_) q)
  exact ite_mono p1 (fun p1 => p1 _ s1) (fun p1 => r' x ds S1 σ H1 _ (h.step s1) (hb.mono x ds S1 _ _ (fun b S2 q2 => q2.step s1) p1))⟩
theorem t_not (ha : T2 X W a Tt) : T2 X W (.UnaryOp .Not a pos) (dNot Tt) := ⟨fun x ds S Q Q' h p => ha.mono x ds S _ _ (fun k S1 p1 => h _ _ p1) p, by
  obtain ⟨t, p, r⟩ := ha.run
  exact ⟨_, pt_not p, fun x ds S σ H Q h q => r x ds S σ H _ h (ha.mono x ds S _ _ (fun k S1 p1 H1 s1 => p1 _ s1) q)⟩⟩
def dAndV (Ta Tb : TE2) : TE2 := fun x ds S Q => Ta x ds S fun d S1 => ∃ k, d = .bl k ∧ if k = true then Tb x ds S1 Q else Q (.bl false) S1
def dOrV (Ta Tb : TE2) : TE2 := fun x ds S Q => Ta x ds S fun d S1 => ∃ k, d = .bl k ∧ if k = true then Q (.bl true) S1 else Tb x ds S1 Q
def dNotV (Ta : TE2) : TE2 := fun x ds S Q => Ta x ds S fun d S1 => ∃ k, d = .bl k ∧ Q (.bl (!k)) S1
theorem e_one {op} (h : E2 X W a Ta) : E2 X W (.BoolOp op [a] pos) Ta := ⟨h.mono, by
  obtain ⟨t, p, r⟩ := h.run
  exact ⟨t, pe_one p, r⟩⟩
theorem e_and (ha : E2 X W a Ta) (hb : E2 X W (.BoolOp .And (b :: rest) pos) Tb) : E2 X W (.BoolOp .And (a :: b :: rest) pos) (dAndV Ta Tb) := ⟨fun x ds S Q Q' h p =>
    ha.mono x ds S _ _ (fun d S1 ⟨k, e, p1⟩ => ⟨k, e, ite_mono p1 (fun p1 => hb.mono x ds S1 _ _ h p1) (fun p1 => h _ _ p1)⟩) p, by
  obtain ⟨t, p, r⟩ := ha.run
  obtain ⟨u, p', r'⟩ := hb.run
  refine ⟨_, pe_and p p', fun x ds S σ H Q h q => ?_⟩
  refine r x ds S σ H _ h (ha.mono x ds S _ _ (fun d S1 ⟨k, e, p1⟩ v H1 s1 r1 => ?_) q)
  subst e
  exact ⟨k, r1, ite_mono p1 (fun p1 => r' x ds S1 σ H1 _ (h.step s1) (hb.mono x ds S1 _ _ (fun b S2 q2 => q2.step s1) p1)) (fun p1 => p1 _ _ s1 rfl)⟩⟩
theorem e_or (ha : E2 X W a Ta) (hb : E2 X W (.BoolOp .Or (b :: rest) pos) Tb) : E2 X W (.BoolOp .Or (a :: b :: rest) pos) (dOrV Ta Tb) := ⟨fun x ds S Q Q' h p =>
    ha.mono x ds S _ _ (fun d S1 ⟨k, e, p1⟩ => ⟨k, e, ite_mono p1 (fun p1 => h _ _ p1) (fun p1 => hb.mono x ds S1 _ _ h p1)⟩) p, by
  obtain ⟨t, p, r⟩ := ha.run
  obtain ⟨u, p', r'⟩ := hb.run
  refine ⟨_, pe_or p p', fun x ds S σ H Q h q => ?_⟩
  refine r x ds S σ H _ h (ha.mono x ds S _ _ (fun d S1 ⟨k, e, p1⟩ v H1 s1 r1 => ?_) q)
  subst e
  exact ⟨k, r1, ite_mono p1 (fun p1 => p1 _ _ s1 rfl) (fun p1 => r' x ds S1 σ H1 _ (h.step s1) (hb.mono x ds S1 _ _ (fun b S2 q2 => q2.step s1) p1))⟩⟩
theorem e_not (ha : E2 X W a Ta) : E2 X W (.UnaryOp .Not a pos) (dNotV Ta) := ⟨fun x ds S Q Q' h p => ha.mono x ds S _ _ (fun d S1 ⟨k, e, p1⟩ => ⟨k, e, h _ _ p1⟩) p, by
  obtain ⟨t, p, r⟩ := ha.run
  refine ⟨_, pe_not p, fun x ds S σ H Q h q => r x ds S σ H _ h (ha.mono x ds S _ _ (fun d S1 ⟨k, e, p1⟩ v H1 s1 r1 => ?_) q)⟩
  subst e
  exact ⟨k, r1, p1 _ _ s1 rfl⟩⟩
def dIf (T : TT2) (Ta Tb : TE2) : TE2 := fun x ds S Q => T x ds S fun k S1 => if k = true then Ta x ds S1 Q else Tb x ds S1 Q
theorem e_if (hc : T2 X W c Tt) (ha : E2 X W a Ta) (hb : E2 X W b Tb) : E2 X W (.IfExp c a b pos) (dIf Tt Ta Tb) := ⟨fun x ds S Q Q' h p =>
    hc.mono x ds S _ _ (fun k S1 p1 => ite_mono p1 (fun p1 => ha.mono x ds S1 _ _ h p1) (fun p1 => hb.mono x ds S1 _ _ h p1)) p, by
  obtain ⟨tc, pc, rc⟩ := hc.run
  obtain ⟨ta, pa, ra⟩ := ha.run
  obtain ⟨tb, pb, rb⟩ := hb.run
  refine ⟨_, pe_ifExp pc pa pb, fun x ds S σ H Q h q => ?_⟩
  refine rc x ds S σ H _ h (hc.mono x ds S _ _ (fun k S1 p1 H1 s1 => ?_) q)
  exact ite_mono p1 (fun p1 => ra x ds S1 σ H1 _ (h.step s1) (ha.mono x ds S1 _ _ (fun b S2 q2 => q2.step s1) p1)) (fun p1 => rb x ds S1 σ H1 _ (h.step s1) (hb.mono x ds S1 _ _ (fun b S2 q2 => q2.step s1) p1))⟩

/-! ### argument lists, displays -/
def dNil : TA2 := fun _ _ S Q => Q [] S
def dCons (T : TE2) (U : TA2) : TA2 := fun x ds S Q => T x ds S fun d S1 => U x ds S1 fun es S2 => Q (d :: es) S2
theorem a_nil : A2 X W [] dNil := ⟨fun _ _ _ _ _ h q => h _ _ q, _, pa_nil, fun x ds S σ H Q h q => q _ H h.refl rfl⟩
theorem a_cons (ha : E2 X W e Te) (hr : A2 X W es TA) (hs : starEach (e :: es) X.env = (false, eval e X.env) :: starEach es X.env := by rfl) : A2 X W (e :: es) (dCons Te TA) := ⟨fun x ds S Q Q' h p =>
    ha.mono x ds S _ _ (fun d S1 p1 => hr.mono x ds S1 _ _ (fun fs S2 p2 => h _ _ p2) p1) p, by
  obtain ⟨t, p, r⟩ := ha.run
  obtain ⟨u, p', r'⟩ := hr.run
  refine ⟨_, pa_cons p p' hs, fun x ds S σ H Q h q => ?_⟩
  refine r x ds S σ H _ h (ha.mono x ds S _ _ (fun d S1 p1 v H1 s1 r1 => ?_) q)
  refine r' x ds S1 σ H1 _ (h.step s1) (hr.mono x ds S1 _ _ (fun fs S2 p2 vs H2 s2 r2 => ?_) p1)
  exact p2 (v :: vs) H2 (s1.trans s2) ⟨v, vs, rfl, r1.mono s2.same, r2⟩⟩
theorem size_le {n : Nat} (h : n ≤ 100000) : n ≤ sizeLine := Nat.le_trans h (by decide)
/-- a new list: of data, or one that may change -/
def newL (ds : List Dt) (S : Cells) (Q : QE) : Prop := Q (.lst ds) S ∨ ∀ p, S p = none → Q (.ref p) (S.put p (.lst ds))
theorem newL.mono {ds : List Dt} {S : Cells} {Q Q' : QE} (h : ∀ d S', Q d S' → Q' d S') (q : newL ds S Q) : newL ds S Q' := q.imp (fun q => h _ _ q) (fun q p hp => h _ _ (q p hp))
theorem newL.run {K : PySem.W.Frag} {S S1 : Cells} {H H1 : Hp} {Q : VK} {ds : List Dt} {vs : List V} (s1 : Step K S H S1 H1) (r : Rps K (wo S1 H1) ds vs) (q : newL ds S1 (up K S H Q)) {p : Addr} (hp : H1 p = none) : Q (.ref p) (upd H1 p (.lst vs)) := by
  rcases q with q | q
  · exact q _ _ (s1.trans ⟨new_same s1.wd hp, new_wd s1.wd hp⟩) ⟨p, vs, rfl, SqL.of (new_at s1.wd hp), r.mono (new_same s1.wd hp)⟩
  · have w := put_wo (S := S1) (H := H1) (p := p) (o := .lst vs) (.lst ds) (.inr hp)
    refine q p (s1.wd.free hp) _ _ (s1.trans ⟨?_, put_wd s1.wd (.inr hp) ⟨vs, upd_same, r⟩⟩) rfl
    rw [w]
    exact Same.refl _
theorem newT.run {K : PySem.W.Frag} {S S1 : Cells} {H H1 : Hp} {Q : VK} {ds : List Dt} {vs : List V} (s1 : Step K S H S1 H1) (r : Rps K (wo S1 H1) ds vs) (q : up K S H Q (.tup ds) S1) {p : Addr} (hp : H1 p = none) : Q (.ref p) (upd H1 p (.tup vs)) :=
  q _ _ (s1.trans ⟨new_same s1.wd hp, new_wd s1.wd hp⟩) ⟨p, vs, rfl, SqT.of (new_at s1.wd hp), r.mono (new_same s1.wd hp)⟩
def dTup (T : TA2) : TE2 := fun x ds S Q => T x ds S fun es S1 => es.length ≤ 100000 ∧ Q (.tup es) S1
def dLst (T : TA2) : TE2 := fun x ds S Q => T x ds S fun es S1 => es.length ≤ 100000 ∧ newL es S1 Q
theorem e_tup {x1} (h : A2 X W es TA) : E2 X W (.Tuple es x1 pos) (dTup TA) := ⟨fun x ds S Q Q' hq p => h.mono x ds S _ _ (fun d S1 p1 => ⟨p1.1, hq _ _ p1.2⟩) p, by
  obtain ⟨t, p, r⟩ := h.run
  refine ⟨_, pe_tup p, fun x ds S σ H Q hh q => r x ds S σ H _ hh (h.mono x ds S _ _ (fun d S1 p1 vs H1 s1 r1 => ⟨?_, fun p hp => newT.run s1 r1 p1.2 hp⟩) q)⟩
  rw [r1.length]
  exact size_le p1.1⟩
theorem e_lst (h : A2 X W es TA) : E2 X W (.List es pos) (dLst TA) := ⟨fun x ds S Q Q' hq p => h.mono x ds S _ _ (fun d S1 p1 => ⟨p1.1, newL.mono hq p1.2⟩) p, by
  obtain ⟨t, p, r⟩ := h.run
  refine ⟨_, pe_lst p, fun x ds S σ H Q hh q => r x ds S σ H _ hh (h.mono x ds S _ _ (fun d S1 p1 vs H1 s1 r1 => ⟨?_, fun p hp => newL.run s1 r1 p1.2 hp⟩) q)⟩
  rw [r1.length]
  exact size_le p1.1⟩

/-! ### calls -/
abbrev Sp2 := List Dt → Cells → QE → (Addr → Cells → Prop) → Prop
def lift (K : PySem.W.Frag) (sp : Sp2) : Sp := fun vs H Q E => ∃ S ds, Wd K S H ∧ Rps K (wo S H) ds vs ∧ sp ds S (up K S H Q) fun C S' => ∀ H', Step K S H S' H' → E (.ref C) none H'
structure Sp2.Mono (sp : Sp2) : Prop where
  q : ∀ ds S Q Q' E E', (∀ d S', Q d S' → Q' d S') → (∀ C S', E C S' → E' C S') → sp ds S Q E → sp ds S Q' E'
/-- the def at x keeps the promise sp -/
def Has (P : Program) (w : World) (K : PySem.W.Frag) (mg : Str → Option Value) (base : Heap) (k : Nat) (x : Str) (ps : List Str) (sp : Sp2) : Prop :=
  sp.Mono ∧ ∃ (f : Addr) (fd : FuncData), mg x = some (.ref f) ∧ PySem.W.keepIn K (.ref f) = true ∧ Binds K fd ps [] ∧ FnOk P w K mg base (L2.CX P w) k f fd ps (lift K sp)
def dCall (sp : Sp2) (T : TA2) : TE2 := fun x ds S Q => T x ds S fun vs S1 => sp vs S1 Q fun C S' => x C ds S'
theorem dCall.mono {sp : Sp2} (m : sp.Mono) (h : A2 X W es TA) : ∀ x ds S Q Q', (∀ d S', Q d S' → Q' d S') → dCall sp TA x ds S Q → dCall sp TA x ds S Q' :=
  fun x ds S Q Q' hq p => h.mono x ds S _ _ (fun d S1 p1 => m.q _ _ _ _ _ _ hq (fun _ _ z => z) p1) p
theorem e_call {k : Nat} {x : Str} {ps : List Str} {sp : Sp2} {p : Pos} (F : Has X.prog X.w X.K X.mg X.base k x ps sp) (hr : Room k X.A) (tk : Takes X W) (ha : A2 X W (e :: es) TA) (hg : Gl X x := by rfl)
    (hdb : (x == ("__debug__" : Str)) = false := by decide) (he : starEach (e :: es) X.env = (false, eval e X.env) :: starEach es X.env := by rfl) (hpl : (backTo pos (starEach es X.env)).any (·.1) = false := by rfl) :
    E2 X W (.Call (.Name x p) (e :: es) [] pos) (dCall sp TA) := by
  obtain ⟨m, f, fd, hm, kp, b, F⟩ := F
  refine ⟨dCall.mono m ha, ?_⟩
  obtain ⟨t, pt, r⟩ := ha.run
  refine ⟨_, pe_callS (E := WE W) F hr hg hm kp b (fun σ => passAt tk σ) pt hdb he hpl, fun x ds S σ H Q h q => ?_⟩
  refine r x ds S σ H _ h (ha.mono x ds S _ _ (fun d S1 p1 vs H1 s1 r1 => ?_) q)
  refine ⟨S1, d, s1.wd, r1, m.q _ _ _ _ _ _ (fun z S2 q2 => q2.step s1) (fun C S2 q2 H2 s2 => ?_) p1⟩
  exact (h.step s1).xe C ds S2 q2 σ H2 s2 ((h.step s1).rs.mono s2.same)
theorem pe_callS0 {k : Nat} {f : Addr} {fd : FuncData} {ps : List Str} {sp : Sp} {E : L2.St → XK} {x : Str} {p : Pos} {CX : CXT} (F : FnOk X.prog X.w X.K X.mg X.base CX k f fd ps sp) (hr : Room k X.A) (hg : Gl X x) (hm : X.mg x = some (.ref f)) (hk : PySem.W.keepIn X.K (.ref f) = true) (hb : Binds X.K fd ps []) (hx : ∀ σ, PassesAt CX X σ (E σ))
    (hdb : (x == ("__debug__" : Str)) = false := by decide) : PE X (.Call (.Name x p) [] [] pos) (tCallS sp E tNil) := by
  refine ⟨fun pins s σ H Q I h => ?_⟩
  refine wpAny_Call_Name_kw (ld_glob I hg hm ?_ hdb)
  exact PySem.W.callWith_K0 I.kIn hk (run_fnS (us := []) F hr hb (hx σ) I .nil h)
theorem e_call0 {k : Nat} {x : Str} {ps : List Str} {sp : Sp2} {p : Pos} (F : Has X.prog X.w X.K X.mg X.base k x ps sp) (hr : Room k X.A) (tk : Takes X W) (hg : Gl X x := by rfl)
    (hdb : (x == ("__debug__" : Str)) = false := by decide) : E2 X W (.Call (.Name x p) [] [] pos) (dCall sp dNil) := by
  obtain ⟨m, f, fd, hm, kp, b, F⟩ := F
  refine ⟨dCall.mono m (a_nil (X := X) (W := W)), ?_⟩
  refine ⟨_, pe_callS0 (E := WE W) F hr hg hm kp b (fun σ => passAt tk σ) hdb, fun x ds S σ H Q h q => ?_⟩
  refine ⟨S, [], h.wd, rfl, m.q _ _ _ _ _ _ (fun z S2 q2 => q2) (fun C S2 q2 H2 s2 => ?_) q⟩
  exact h.xe C ds S2 q2 σ H2 s2 (h.rs.mono s2.same)
/-- a built-in, by the values of its arguments -/
abbrev QC := List Dt → Cells → QE → Prop
structure C2 (X : Cx) (f : Value) (q : QC) : Prop where
  mono : ∀ ds S Q Q', (∀ d S', Q d S' → Q' d S') → q ds S Q → q ds S Q'
  run : ∃ r, CallR X f r ∧ ∀ ds vs S H Q, Wd X.K S H → Rps X.K (wo S H) ds vs → q ds S (up X.K S H Q) → r vs H Q
def dCB (q : QC) (T : TA2) : TE2 := fun x ds S Q => T x ds S fun vs S1 => q vs S1 Q
theorem e_callB {x : Str} {id : String} {q : QC} {p : Pos} (hc : C2 X (.builtin id) q) (hm : X.mg x = none) (hv : bootBuiltins x = some (.builtin id)) (ha : A2 X W (e :: es) TA) (hg : Gl X x := by rfl) (hn : x ≠ "__name__" := by decide) (hdb : (x == ("__debug__" : Str)) = false := by decide)
    (he : starEach (e :: es) X.env = (false, eval e X.env) :: starEach es X.env := by rfl) (hpl : (backTo pos (starEach es X.env)).any (·.1) = false := by rfl) : E2 X W (.Call (.Name x p) (e :: es) [] pos) (dCB q TA) := ⟨fun x ds S Q Q' h p =>
    ha.mono x ds S _ _ (fun d S1 p1 => hc.mono _ _ _ _ h p1) p, by
  obtain ⟨r, pr, rr⟩ := hc.run
  obtain ⟨t, pt, rt⟩ := ha.run
  refine ⟨_, pe_callB pr hg hm hv pt hn hdb he hpl, fun x ds S σ H Q h q => ?_⟩
  refine rt x ds S σ H _ h (ha.mono x ds S _ _ (fun d S1 p1 vs H1 s1 r1 => ?_) q)
  exact rr d vs S1 H1 Q s1.wd r1 (hc.mono _ _ _ _ (fun z S2 q2 => q2.step s1) p1)⟩
theorem e_callTy {x : Str} {T : String} {q : QC} {p : Pos} (hc : C2 X (.type T) q) (hm : X.mg x = none) (hv : bootBuiltins x = some (.type T)) (ha : A2 X W (e :: es) TA) (hg : Gl X x := by rfl) (hn : x ≠ "__name__" := by decide) (hdb : (x == ("__debug__" : Str)) = false := by decide)
    (he : starEach (e :: es) X.env = (false, eval e X.env) :: starEach es X.env := by rfl) (hpl : (backTo pos (starEach es X.env)).any (·.1) = false := by rfl) : E2 X W (.Call (.Name x p) (e :: es) [] pos) (dCB q TA) := ⟨fun x ds S Q Q' h p =>
    ha.mono x ds S _ _ (fun d S1 p1 => hc.mono _ _ _ _ h p1) p, by
  obtain ⟨r, pr, rr⟩ := hc.run
  obtain ⟨t, pt, rt⟩ := ha.run
  refine ⟨_, pe_callTy pr hg hm hv pt hn hdb he hpl, fun x ds S σ H Q h q => ?_⟩
  refine rt x ds S σ H _ h (ha.mono x ds S _ _ (fun d S1 p1 vs H1 s1 r1 => ?_) q)
  exact rr d vs S1 H1 Q s1.wd r1 (hc.mono _ _ _ _ (fun z S2 q2 => q2.step s1) p1)⟩
end
end Sc

namespace Sc
open PySem PySem.Spec PyProof.Rows L2
/-! ### ints -/
def qI (C : Int → Int → Prop) (g : Int → Int → Dt) : QO := fun d e S Q => ∃ i j, d = .int i ∧ e = .int j ∧ C i j ∧ Q (g i j) S
def qI0 (g : Int → Int → Dt) : QO := fun d e S Q => ∃ i j, d = .int i ∧ e = .int j ∧ Q (g i j) S
section
variable {X : Cx} {f : Value → Value → Sem Value} {W : WX} {a b e : Expr} {es : List Expr} {Ta Tb Te : TE2} {Tt Tu : TT2} {TA : TA2} {pos : Pos}
theorem o_I {C : Int → Int → Prop} {g : Int → Int → Int} (h : OpR X f (rI C fun i j => .int (g i j))) : O2 X f (qI C fun i j => .int (g i j)) := ⟨fun d e S Q Q' hq ⟨i, j, e1, e2, c, q⟩ => ⟨i, j, e1, e2, c, hq _ _ q⟩,
  _, h, fun d e v u S H Q w r1 r2 ⟨i, j, e1, e2, c, q⟩ => by
    subst e1 e2
    exact ⟨i, j, r1, r2, c, q _ H ⟨Same.refl _, w⟩ rfl⟩⟩
theorem o_I0 {g : Int → Int → Int} (h : OpR X f (rI0 fun i j => .int (g i j))) : O2 X f (qI0 fun i j => .int (g i j)) := ⟨fun d e S Q Q' hq ⟨i, j, e1, e2, q⟩ => ⟨i, j, e1, e2, hq _ _ q⟩,
  _, h, fun d e v u S H Q w r1 r2 ⟨i, j, e1, e2, q⟩ => by
    subst e1 e2
    exact ⟨i, j, r1, r2, q _ H ⟨Same.refl _, w⟩ rfl⟩⟩
theorem o_B0 {g : Int → Int → Bool} (h : OpR X f (rI0 fun i j => .bl (g i j))) : O2 X f (qI0 fun i j => .bl (g i j)) := ⟨fun d e S Q Q' hq ⟨i, j, e1, e2, q⟩ => ⟨i, j, e1, e2, hq _ _ q⟩,
  _, h, fun d e v u S H Q w r1 r2 ⟨i, j, e1, e2, q⟩ => by
    subst e1 e2
    exact ⟨i, j, r1, r2, q _ H ⟨Same.refl _, w⟩ rfl⟩⟩
abbrev qAdd : QO := qI0 fun i j => .int (i + j)
abbrev qSub : QO := qI0 fun i j => .int (i - j)
abbrev qMul : QO := qI CMul fun i j => .int (i * j)
abbrev qFdiv : QO := qI CDivW fun i j => .int (i / j)
abbrev qFdivN : QO := qI CDivN fun i j => .int (i.fdiv j)
abbrev qMod : QO := qI (fun _ j => 0 < j) fun i j => .int (i % j)
abbrev qPow : QO := qI CPow fun i j => .int (i ^ j.toNat)
abbrev qLt : QO := qI0 fun i j => .bl (decide (i < j))
abbrev qLe : QO := qI0 fun i j => .bl (decide (i ≤ j))
abbrev qGt : QO := qI0 fun i j => .bl (decide (j < i))
abbrev qGe : QO := qI0 fun i j => .bl (decide (j ≤ i))
theorem o_add : O2 X (binaryOp .Add) (qI0 fun i j => .int (i + j)) := o_I0 op_add
theorem o_sub : O2 X (binaryOp .Sub) (qI0 fun i j => .int (i - j)) := o_I0 op_sub
theorem o_mul : O2 X (binaryOp .Mult) (qI CMul fun i j => .int (i * j)) := o_I op_mul
/-- // by a positive divisor below 2 ^ 9000 -/
theorem o_fdiv : O2 X (binaryOp .FloorDiv) (qI CDivW fun i j => .int (i / j)) := o_I op_fdivW
theorem o_fdivN : O2 X (binaryOp .FloorDiv) (qI CDivN fun i j => .int (i.fdiv j)) := o_I op_fdivN
theorem o_mod : O2 X (binaryOp .Mod) (qI (fun _ j => 0 < j) fun i j => .int (i % j)) := o_I op_mod
theorem o_modN : O2 X (binaryOp .Mod) (qI (fun _ j => j ≠ 0) fun i j => .int (i.fmod j)) := o_I op_modN
theorem o_pow : O2 X (binaryOp .Pow) (qI CPow fun i j => .int (i ^ j.toNat)) := o_I op_pow
theorem o_lt : O2 X (compareOp .Lt) (qI0 fun i j => .bl (decide (i < j))) := o_B0 op_lt
theorem o_le : O2 X (compareOp .LtE) (qI0 fun i j => .bl (decide (i ≤ j))) := o_B0 op_le
theorem o_gt : O2 X (compareOp .Gt) (qI0 fun i j => .bl (decide (j < i))) := o_B0 op_gt
theorem o_ge : O2 X (compareOp .GtE) (qI0 fun i j => .bl (decide (j ≤ i))) := o_B0 op_ge
/-! ### == of scalars -/
def sEq : Dt → Dt → Option Bool
  | .non, .non => some true | .non, .int _ => some false | .int _, .non => some false | .non, .bl _ => some false | .bl _, .non => some false | .non, .str _ => some false | .str _, .non => some false
  | .int i, .int j => some (decide (i = j)) | .bl i, .bl j => some (decide (i = j)) | .str i, .str j => some (decide (i = j))
  | .int _, .str _ => some false | .str _, .int _ => some false | .bl _, .str _ => some false | .str _, .bl _ => some false
  | _, _ => none
def qEq : QO := fun d e S Q => ∃ b, sEq d e = some b ∧ Q (.bl b) S
def qNe : QO := fun d e S Q => ∃ b, sEq d e = some b ∧ Q (.bl (!b)) S
theorem sEq_ok {K : PySem.W.Frag} {I : Hp} {d e : Dt} {v u : V} {b : Bool} (r1 : Rp K I d v) (r2 : Rp K I e u) (h : sEq d e = some b) : scal v u = true ∧ decide (v = u) = b := by
  cases d <;> cases e <;> (try (cases (show none = some b from h))) <;>
    (have r1' := r1
     have r2' := r2
     simp only [Rp] at r1' r2'
     subst r1' r2'
     first
       | exact ⟨rfl, Option.some.inj h⟩
       | (refine ⟨rfl, ?_⟩; have h' := Option.some.inj h; rw [← h']; simp))
theorem o_eq : O2 X (compareOp .Eq) qEq := ⟨fun d e S Q Q' hq ⟨b, h, q⟩ => ⟨b, h, hq _ _ q⟩, _, op_eq, fun d e v u S H Q w r1 r2 ⟨b, h, q⟩ => by
  obtain ⟨h1, h2⟩ := sEq_ok r1 r2 h
  exact ⟨h1, by rw [h2]; exact q _ H ⟨Same.refl _, w⟩ rfl⟩⟩
theorem o_ne : O2 X (compareOp .NotEq) qNe := ⟨fun d e S Q Q' hq ⟨b, h, q⟩ => ⟨b, h, hq _ _ q⟩, _, op_ne, fun d e v u S H Q w r1 r2 ⟨b, h, q⟩ => by
  obtain ⟨h1, h2⟩ := sEq_ok r1 r2 h
  exact ⟨h1, by rw [h2]; exact q _ H ⟨Same.refl _, w⟩ rfl⟩⟩
/-! ### is None -/
def isN : Dt → Bool
  | .non => true
  | _ => false
theorem isN_ok {K : PySem.W.Frag} {I : Hp} {d : Dt} {v : V} (r : Rp K I d v) : decide (v = .non) = isN d := by
  cases d <;> (have r' := r; simp only [Rp] at r') <;> first
    | (subst r'; rfl)
    | (obtain ⟨_, _, e, _⟩ := r'; subst e; rfl)
    | (subst r'; simp [isN])
def qIsN : QO := fun d e S Q => e = .non ∧ Q (.bl (isN d)) S
def qNotN : QO := fun d e S Q => e = .non ∧ Q (.bl (!isN d)) S
theorem o_isN : O2 X (compareOp .Is) qIsN := ⟨fun d e S Q Q' hq ⟨h, q⟩ => ⟨h, hq _ _ q⟩, _, op_isN, fun d e v u S H Q w r1 r2 ⟨h, q⟩ => by
  subst h
  exact ⟨r2, by rw [isN_ok r1]; exact q _ H ⟨Same.refl _, w⟩ rfl⟩⟩
theorem o_notN : O2 X (compareOp .IsNot) qNotN := ⟨fun d e S Q Q' hq ⟨h, q⟩ => ⟨h, hq _ _ q⟩, _, op_notN, fun d e v u S H Q w r1 r2 ⟨h, q⟩ => by
  subst h
  exact ⟨r2, by rw [isN_ok r1]; exact q _ H ⟨Same.refl _, w⟩ rfl⟩⟩
def qIsB : QO := fun d e S Q => ∃ i j, d = .bl i ∧ e = .bl j ∧ Q (.bl (decide (i = j))) S
def qNotB : QO := fun d e S Q => ∃ i j, d = .bl i ∧ e = .bl j ∧ Q (.bl (!decide (i = j))) S
theorem o_isB : O2 X (compareOp .Is) qIsB := ⟨fun d e S Q Q' hq ⟨i, j, e1, e2, q⟩ => ⟨i, j, e1, e2, hq _ _ q⟩, _, op_isBl, fun d e v u S H Q w r1 r2 ⟨i, j, e1, e2, q⟩ => by
  subst e1 e2
  exact ⟨i, j, r1, r2, q _ H ⟨Same.refl _, w⟩ rfl⟩⟩
theorem o_notB : O2 X (compareOp .IsNot) qNotB := ⟨fun d e S Q Q' hq ⟨i, j, e1, e2, q⟩ => ⟨i, j, e1, e2, hq _ _ q⟩, _, op_notBl, fun d e v u S H Q w r1 r2 ⟨i, j, e1, e2, q⟩ => by
  subst e1 e2
  exact ⟨i, j, r1, r2, q _ H ⟨Same.refl _, w⟩ rfl⟩⟩
/-! ### unary minus -/
structure U2 (X : Cx) (f : Value → Sem Value) (q : Dt → Cells → QE → Prop) : Prop where
  mono : ∀ d S Q Q', (∀ d S', Q d S' → Q' d S') → q d S Q → q d S Q'
  run : ∃ r, UnR X f r ∧ ∀ d v S H Q, Wd X.K S H → Rp X.K (wo S H) d v → q d S (up X.K S H Q) → r v H Q
def dUn (q : Dt → Cells → QE → Prop) (T : TE2) : TE2 := fun x ds S Q => T x ds S fun d S1 => q d S1 Q
theorem e_un {op : UnaryOp} {q : Dt → Cells → QE → Prop} (ho : U2 X (unaryOp op) q) (ha : E2 X W a Ta) : E2 X W (.UnaryOp op a pos) (dUn q Ta) := ⟨fun x ds S Q Q' h p => ha.mono x ds S _ _ (fun d S1 p1 => ho.mono _ _ _ _ h p1) p, by
  obtain ⟨t, p, r⟩ := ha.run
  obtain ⟨rr, po, ro⟩ := ho.run
  exact ⟨_, pe_un po p, fun x ds S σ H Q h q => r x ds S σ H _ h (ha.mono x ds S _ _ (fun d S1 p1 v H1 s1 r1 => ro d v S1 H1 Q s1.wd r1 (ho.mono _ _ _ _ (fun z S2 q2 => q2.step s1) p1)) q)⟩⟩
def qNeg : Dt → Cells → QE → Prop := fun d S Q => ∃ i, d = .int i ∧ Q (.int (-i)) S
theorem u_neg : U2 X (unaryOp .USub) qNeg := ⟨fun d S Q Q' hq ⟨i, e, q⟩ => ⟨i, e, hq _ _ q⟩, _, un_neg, fun d v S H Q w r1 ⟨i, e, q⟩ => by
  subst e
  exact ⟨i, r1, q _ H ⟨Same.refl _, w⟩ rfl⟩⟩
/-! ### what may be read as a list, a tuple -/
def asL (S : Cells) : Dt → Option (List Dt)
  | .lst ds => some ds
  | .ref a => match S a with
    | some (.lst ds) => some ds
    | _ => none
  | _ => none
def asT : Dt → Option (List Dt)
  | .tup ds => some ds
  | _ => none
def asQ (S : Cells) : Dt → Option (List Dt)
  | .tup ds => some ds
  | d => asL S d
theorem asL_ok {K : PySem.W.Frag} {S : Cells} {H : Hp} {d : Dt} {ds : List Dt} {v : V} (w : Wd K S H) (r : Rp K (wo S H) d v) (h : asL S d = some ds) : ∃ a xs, v = .ref a ∧ SqL K H a xs ∧ Rps K (wo S H) ds xs := by
  cases d with
  | lst es =>
    cases (show some es = some ds from h)
    obtain ⟨a, xs, e, h1, h2⟩ := r
    exact ⟨a, xs, e, sqL_mono wo_le h1, h2⟩
  | ref a =>
    have h' : (match S a with | some (.lst ds) => some ds | _ => none) = some ds := h
    cases q : S a with
    | none => rw [q] at h'; cases h'
    | some c =>
      cases c with
      | ins C fs => rw [q] at h'; cases h'
      | lst es =>
        rw [q] at h'
        cases (show some es = some ds from h')
        obtain ⟨xs, h1, h2⟩ := w a _ q
        exact ⟨a, xs, r, SqL.of h1, h2⟩
  | _ => cases h
theorem asT_ok {K : PySem.W.Frag} {S : Cells} {H : Hp} {d : Dt} {ds : List Dt} {v : V} (r : Rp K (wo S H) d v) (h : asT d = some ds) : ∃ a xs, v = .ref a ∧ SqT K H a xs ∧ Rps K (wo S H) ds xs := by
  cases d with
  | tup es =>
    cases (show some es = some ds from h)
    obtain ⟨a, xs, e, h1, h2⟩ := r
    exact ⟨a, xs, e, sqT_mono wo_le h1, h2⟩
  | _ => cases h
theorem asQ_ok {K : PySem.W.Frag} {S : Cells} {H : Hp} {d : Dt} {ds : List Dt} {v : V} (w : Wd K S H) (r : Rp K (wo S H) d v) (h : asQ S d = some ds) : ∃ a xs, v = .ref a ∧ (SqL K H a xs ∨ SqT K H a xs) ∧ Rps K (wo S H) ds xs := by
  cases d with
  | tup es =>
    obtain ⟨a, xs, h1, h2, h3⟩ := asT_ok r (show asT (.tup es) = some ds from h)
    exact ⟨a, xs, h1, .inr h2, h3⟩
  | lst es =>
    obtain ⟨a, xs, h1, h2, h3⟩ := asL_ok w r (show asL S (.lst es) = some ds from h)
    exact ⟨a, xs, h1, .inl h2, h3⟩
  | ref a =>
    obtain ⟨a, xs, h1, h2, h3⟩ := asL_ok w r (show asL S (.ref a) = some ds from h)
    exact ⟨a, xs, h1, .inl h2, h3⟩
  | _ => cases h
/-! ### truth -/
def truD (S : Cells) : Dt → Option Bool
  | .non => some false
  | .bl b => some b
  | .int i => some (i != 0)
  | .str _ => none
  | d => (asQ S d).map fun ds => !ds.isEmpty
theorem isEmpty_rps {K : PySem.W.Frag} {I : Hp} {ds : List Dt} {xs : List V} (h : Rps K I ds xs) : ds.isEmpty = xs.isEmpty := by
  cases ds with
  | nil => cases (show xs = [] from h); rfl
  | cons d ds => obtain ⟨v, vs, e, _⟩ := h; subst e; rfl
theorem truD_ok {K : PySem.W.Frag} {S : Cells} {H : Hp} {d : Dt} {v : V} {k : Bool} (w : Wd K S H) (r : Rp K (wo S H) d v) (h : truD S d = some k) : TruV K v H k := by
  have seq : ∀ ds, asQ S d = some ds → k = !ds.isEmpty → TruV K v H k := fun ds h1 h2 => by
    obtain ⟨a, xs, e, h3, h4⟩ := asQ_ok w r h1
    subst e
    rw [isEmpty_rps h4] at h2
    rcases h3 with h3 | h3
    · exact .inl ⟨xs, h3, h2⟩
    · exact .inr (.inl ⟨xs, h3, h2⟩)
  cases d with
  | non => cases (show v = _ from r); exact (Option.some.inj h).symm
  | bl b => cases (show v = _ from r); exact (Option.some.inj h).symm
  | int i => cases (show v = _ from r); exact (Option.some.inj h).symm
  | str s => cases h
  | tup ds => exact seq ds rfl (Option.some.inj h).symm
  | lst ds => exact seq ds rfl (Option.some.inj h).symm
  | ref a =>
    cases q : asQ S (.ref a) with
    | none =>
      have h' : (asQ S (.ref a)).map (fun ds => !ds.isEmpty) = some k := h
      rw [q] at h'
      cases h'
    | some ds =>
      have h' : (asQ S (.ref a)).map (fun ds => !ds.isEmpty) = some k := h
      rw [q] at h'
      exact seq ds q (Option.some.inj h').symm
def dTru (T : TE2) : TT2 := fun x ds S Q => T x ds S fun d S1 => ∃ k, truD S1 d = some k ∧ Q k S1
theorem t_tru (he : E2 X W e Te) (hs : ∀ whole, isTrue e X.env whole = (do let v ← whole; standAt e.pos; holding [v] (truthy v)) := by intro _; rfl) : T2 X W e (dTru Te) := ⟨fun x ds S Q Q' h p => he.mono x ds S _ _ (fun d S1 ⟨k, e, q⟩ => ⟨k, e, h _ _ q⟩) p, by
  obtain ⟨t, p, r⟩ := he.run
  exact ⟨_, pt_truth p hs, fun x ds S σ H Q h q => r x ds S σ H _ h (he.mono x ds S _ _ (fun d S1 ⟨k, e, q⟩ v H1 s1 r1 => ⟨k, truD_ok s1.wd r1 e, q _ s1⟩) q)⟩⟩
def dOrT (Ta Tb : TE2) : TE2 := fun x ds S Q => Ta x ds S fun d S1 => ∃ k, truD S1 d = some k ∧ if k = true then Q d S1 else Tb x ds S1 Q
theorem e_orT {rest : List Expr} (ha : E2 X W a Ta) (hb : E2 X W (.BoolOp .Or (b :: rest) pos) Tb) : E2 X W (.BoolOp .Or (a :: b :: rest) pos) (dOrT Ta Tb) := ⟨fun x ds S Q Q' h p =>
    ha.mono x ds S _ _ (fun d S1 ⟨k, e, p1⟩ => ⟨k, e, ite_mono p1 (fun p1 => h _ _ p1) (fun p1 => hb.mono x ds S1 _ _ h p1)⟩) p, by
  obtain ⟨t, p, r⟩ := ha.run
  obtain ⟨u, p', r'⟩ := hb.run
  refine ⟨_, pe_orT p p', fun x ds S σ H Q h q => ?_⟩
  refine r x ds S σ H _ h (ha.mono x ds S _ _ (fun d S1 ⟨k, e, p1⟩ v H1 s1 r1 => ⟨k, truD_ok s1.wd r1 e, ?_⟩) q)
  exact ite_mono p1 (fun p1 => p1 _ _ s1 r1) (fun p1 => r' x ds S1 σ H1 _ (h.step s1) (hb.mono x ds S1 _ _ (fun b S2 q2 => q2.step s1) p1))⟩
/-! ### subscripts -/
structure I2 (X : Cx) (q : QO) : Prop where
  mono : ∀ d e S Q Q', (∀ d S', Q d S' → Q' d S') → q d e S Q → q d e S Q'
  run : ∃ r, IxR X r ∧ ∀ d e v u S H Q, Wd X.K S H → Rp X.K (wo S H) d v → Rp X.K (wo S H) e u → q d e S (up X.K S H Q) → r v u H Q
theorem e_ix {q : QO} (ho : I2 X q) (ha : E2 X W a Ta) (hb : E2 X W b Tb) (hs : PlainIx b := by exact fun _ _ => rfl) : E2 X W (.Subscript a b pos) (dOp q Ta Tb) := ⟨dOp.mono ho.mono ha hb, by
  obtain ⟨ta, pa, ra⟩ := ha.run
  obtain ⟨tb, pb, rb⟩ := hb.run
  obtain ⟨r, po, rr⟩ := ho.run
  exact ⟨_, pe_ix po pa pb hs, dOp.run rr ho.mono ha.mono hb.mono ra rb⟩⟩
def qIx : QO := fun d e S Q => ∃ ds i z, asQ S d = some ds ∧ e = .int i ∧ atI ds i = some z ∧ Q z S
theorem rps_atI {K : PySem.W.Frag} {I : Hp} {ds : List Dt} {xs : List V} {i : Int} {z : Dt} (h : Rps K I ds xs) (e : atI ds i = some z) : ∃ v, atI xs i = some v ∧ Rp K I z v := by
  unfold atI at e ⊢
  rw [h.length]
  cases q : ixN ds.length i with
  | none => rw [q] at e; cases e
  | some j =>
    rw [q] at e
    exact h.get e
theorem i_seq : I2 X qIx := ⟨fun d e S Q Q' hq ⟨ds, i, z, h1, h2, h3, q⟩ => ⟨ds, i, z, h1, h2, h3, hq _ _ q⟩, _, ix_list.or ix_tup, fun d e v u S H Q w r1 r2 ⟨ds, i, z, h1, h2, h3, q⟩ => by
  subst h2
  obtain ⟨a, xs, e, hs, hr⟩ := asQ_ok w r1 h1
  obtain ⟨zv, h4, h5⟩ := rps_atI hr h3
  rcases hs with hs | hs
  · exact .inl ⟨a, xs, i, zv, e, r2, hs, h4, q _ H ⟨Same.refl _, w⟩ h5⟩
  · exact .inr ⟨a, xs, i, zv, e, r2, hs, h4, q _ H ⟨Same.refl _, w⟩ h5⟩⟩
/-! ### slices -/
abbrev TO2 := XK2 → Ds → Cells → (Option Int → Cells → Prop) → Prop
def upO (K : PySem.W.Frag) (S : Cells) (H : Hp) (Q : Option Int → Hp → Prop) : Option Int → Cells → Prop := fun b S' => ∀ H', Step K S H S' H' → Q b H'
structure P2 (X : Cx) (W : WX) (e : Option Expr) (T : TO2) : Prop where
  mono : ∀ x ds S Q Q', (∀ d S', Q d S' → Q' d S') → T x ds S Q → T x ds S Q'
  run : ∃ t, PO X e t ∧ ∀ x ds S σ H Q, Here X.K W x ds S σ H → T x ds S (upO X.K S H Q) → t σ H Q
def dNoP : TO2 := fun _ _ S Q => Q none S
def dPart (T : TE2) : TO2 := fun x ds S Q => T x ds S fun d S1 => ∃ i, d = .int i ∧ Q (some i) S1
theorem p_none : P2 X W none dNoP := ⟨fun _ _ _ _ _ h q => h _ _ q, _, po_none, fun x ds S σ H Q h q => q _ h.refl⟩
theorem p_some (h : E2 X W e Te) : P2 X W (some e) (dPart Te) := ⟨fun x ds S Q Q' hq p => h.mono x ds S _ _ (fun d S1 ⟨i, e, q⟩ => ⟨i, e, hq _ _ q⟩) p, by
  obtain ⟨t, p, r⟩ := h.run
  refine ⟨_, po_some p, fun x ds S σ H Q hh q => r x ds S σ H _ hh (h.mono x ds S _ _ (fun d S1 ⟨i, e, q⟩ v H1 s1 r1 => ?_) q)⟩
  subst e
  exact ⟨i, r1, q _ s1⟩⟩
abbrev QL := Dt → Option Int → Option Int → Cells → QE → Prop
structure L2' (X : Cx) (q : QL) : Prop where
  mono : ∀ d l h S Q Q', (∀ d S', Q d S' → Q' d S') → q d l h S Q → q d l h S Q'
  run : ∃ r, SlR X r ∧ ∀ d l h v S H Q, Wd X.K S H → Rp X.K (wo S H) d v → q d l h S (up X.K S H Q) → r v l h H Q
def dSl (q : QL) (T : TE2) (Tl Th : TO2) : TE2 := fun x ds S Q => T x ds S fun d S1 => Tl x ds S1 fun l S2 => Th x ds S2 fun h S3 => q d l h S3 Q
theorem e_slice {q : QL} {lo hi : Option Expr} {Tl Th : TO2} {p2 : Pos} (hq : L2' X q) (he : E2 X W e Te) (hl : P2 X W lo Tl) (hh : P2 X W hi Th) : E2 X W (.Subscript e (.Slice lo hi none p2) pos) (dSl q Te Tl Th) := ⟨fun x ds S Q Q' h p =>
    he.mono x ds S _ _ (fun d S1 p1 => hl.mono x ds S1 _ _ (fun l S2 p2 => hh.mono x ds S2 _ _ (fun u S3 p3 => hq.mono _ _ _ _ _ _ h p3) p2) p1) p, by
  obtain ⟨te, pe, re⟩ := he.run
  obtain ⟨tl, pl, rl⟩ := hl.run
  obtain ⟨th, ph, rh⟩ := hh.run
  obtain ⟨r, pr, rr⟩ := hq.run
  refine ⟨_, pe_slice pr pe pl ph, fun x ds S σ H Q h p => ?_⟩
  refine re x ds S σ H _ h (he.mono x ds S _ _ (fun d S1 p1 v H1 s1 r1 => ?_) p)
  refine rl x ds S1 σ H1 _ (h.step s1) (hl.mono x ds S1 _ _ (fun l S2 p2 H2 s2 => ?_) p1)
  refine rh x ds S2 σ H2 _ (h.step (s1.trans s2)) (hh.mono x ds S2 _ _ (fun u S3 p3 H3 s3 => ?_) p2)
  exact rr d l u v S3 H3 Q s3.wd (r1.mono (s2.trans s3).same) (hq.mono _ _ _ _ _ _ (fun z S4 q4 => q4.step (s1.trans (s2.trans s3))) p3)⟩
def cutG {α : Type} (xs : List α) (lo hi : Option Int) : List α := (xs.drop (HT.sIx xs.length 0 lo)).take (HT.sIx xs.length xs.length hi - HT.sIx xs.length 0 lo)
theorem cutG_rps {K : PySem.W.Frag} {I : Hp} {ds : List Dt} {xs : List V} (h : Rps K I ds xs) (lo hi : Option Int) : Rps K I (cutG ds lo hi) (cutV xs lo hi) := by
  unfold cutG cutV
  rw [h.length]
  exact Rps.take _ (Rps.drop _ h)
theorem cutG_whole {ds : List Dt} {lo hi : Option Int} (h : HT.sIx ds.length 0 lo = 0 ∧ HT.sIx ds.length ds.length hi = ds.length) : cutG ds lo hi = ds := by
  unfold cutG
  rw [h.1, h.2, List.drop_zero, Nat.sub_zero, List.take_length]
def qSlT : QL := fun d lo hi S Q => ∃ ds, asT d = some ds ∧ Q (.tup (cutG ds lo hi)) S
theorem s_tup : L2' X qSlT := ⟨fun d l h S Q Q' hq ⟨ds, e, q⟩ => ⟨ds, e, hq _ _ q⟩, _, sl_tupA, fun d l h v S H Q w r ⟨ds, e, q⟩ => by
  obtain ⟨a, xs, e1, h1, h2⟩ := asT_ok r e
  subst e1
  refine ⟨a, xs, rfl, h1, fun hw => ?_, fun _ p hp => newT.run ⟨Same.refl _, w⟩ (cutG_rps h2 l h) q hp⟩
  rw [h2.length] at hw
  rw [cutG_whole hw] at q
  refine q _ H ⟨Same.refl _, w⟩ ?_
  cases d with
  | tup es => cases (show some es = some ds from e); exact r
  | _ => cases e⟩
def qSlL : QL := fun d lo hi S Q => ∃ ds, asL S d = some ds ∧ newL (cutG ds lo hi) S Q
theorem s_lst : L2' X qSlL := ⟨fun d l h S Q Q' hq ⟨ds, e, q⟩ => ⟨ds, e, newL.mono hq q⟩, _, sl_list, fun d l h v S H Q w r ⟨ds, e, q⟩ => by
  obtain ⟨a, xs, e1, h1, h2⟩ := asL_ok w r e
  exact ⟨a, xs, e1, h1, fun p hp => newL.run ⟨Same.refl _, w⟩ (cutG_rps h2 l h) q hp⟩⟩
/-! ### + and * of tuples, lists -/
def qCatT : QO := fun d e S Q => ∃ ds es, asT d = some ds ∧ asT e = some es ∧ ds.length + es.length ≤ 100000 ∧ Q (.tup (ds ++ es)) S
theorem o_catT : O2 X (binaryOp .Add) qCatT := ⟨fun d e S Q Q' hq ⟨ds, es, h1, h2, h3, q⟩ => ⟨ds, es, h1, h2, h3, hq _ _ q⟩, _, op_catA, fun d e v u S H Q w r1 r2 ⟨ds, es, h1, h2, h3, q⟩ => by
  obtain ⟨a, xs, e1, k1, k2⟩ := asT_ok r1 h1
  obtain ⟨b, ys, e2, k3, k4⟩ := asT_ok r2 h2
  subst e1 e2
  refine ⟨a, b, xs, ys, rfl, rfl, k1, k3, by rw [k2.length, k4.length]; exact size_le h3, fun z => ?_, fun _ z => ?_, fun _ _ p hp => newT.run ⟨Same.refl _, w⟩ (k2.app k4) q hp⟩
  · have hd : ds = [] := by
      have := k2.length
      rw [z] at this
      exact List.eq_nil_of_length_eq_zero this.symm
    rw [hd, List.nil_append] at q
    refine q _ H ⟨Same.refl _, w⟩ ?_
    cases e with
    | tup _ => cases (show some _ = some es from h2); exact r2
    | _ => cases h2
  · have hd : es = [] := by
      have := k4.length
      rw [z] at this
      exact List.eq_nil_of_length_eq_zero this.symm
    rw [hd, List.append_nil] at q
    refine q _ H ⟨Same.refl _, w⟩ ?_
    cases d with
    | tup _ => cases (show some _ = some ds from h1); exact r1
    | _ => cases h1⟩
theorem Rps.rep {K : PySem.W.Frag} {I : Hp} {ds : List Dt} {xs : List V} (h : Rps K I ds xs) : ∀ k : Nat, Rps K I (List.replicate k ds).flatten (List.replicate k xs).flatten
  | 0 => rfl
  | k + 1 => by
    rw [List.replicate_succ, List.replicate_succ, List.flatten_cons, List.flatten_cons]
    exact h.app (Rps.rep h k)
def qRepT : QO := fun d e S Q => ∃ ds k, asT d = some ds ∧ e = .int k ∧ ds ≠ [] ∧ 2 ≤ k ∧ k ≤ 1000 ∧ ds.length ≤ 1000 ∧ Q (.tup (List.replicate k.toNat ds).flatten) S
theorem o_repT : O2 X (binaryOp .Mult) qRepT := ⟨fun d e S Q Q' hq ⟨ds, k, h1, h2, h3, h4, h5, h6, q⟩ => ⟨ds, k, h1, h2, h3, h4, h5, h6, hq _ _ q⟩, _, op_repT, fun d e v u S H Q w r1 r2 ⟨ds, k, h1, h2, h3, h4, h5, h6, q⟩ => by
  obtain ⟨a, xs, e1, k1, k2⟩ := asT_ok r1 h1
  subst h2
  refine ⟨a, k, xs, e1, r2, k1, fun z => h3 ?_, h4, h5, by rw [k2.length]; exact h6, fun p hp => newT.run ⟨Same.refl _, w⟩ (k2.rep k.toNat) q hp⟩
  have := k2.length
  rw [z] at this
  exact List.eq_nil_of_length_eq_zero this.symm⟩
/-! ### built-ins -/
def qAbs : QC := fun ds S Q => ∃ i, ds = [.int i] ∧ Q (.int (if i < 0 then -i else i)) S
theorem c_abs : C2 X (.builtin "abs") qAbs := ⟨fun ds S Q Q' hq ⟨i, e, q⟩ => ⟨i, e, hq _ _ q⟩, _, call_abs, fun ds vs S H Q w r ⟨i, e, q⟩ => by
  subst e
  obtain ⟨v, vs, e1, r1, r2⟩ := r
  cases (show vs = [] from r2)
  cases (show v = _ from r1)
  exact ⟨i, e1, q _ H ⟨Same.refl _, w⟩ rfl⟩⟩
theorem rps2 {K : PySem.W.Frag} {I : Hp} {a b : Dt} {vs : List V} (r : Rps K I [a, b] vs) : ∃ u v, vs = [u, v] ∧ Rp K I a u ∧ Rp K I b v := by
  obtain ⟨u, vs, e1, r1, r2⟩ := r
  obtain ⟨v, vs2, e2, r3, r4⟩ := r2
  cases (show vs2 = [] from r4)
  subst e2
  exact ⟨u, v, e1, r1, r3⟩
theorem rps1 {K : PySem.W.Frag} {I : Hp} {a : Dt} {vs : List V} (r : Rps K I [a] vs) : ∃ u, vs = [u] ∧ Rp K I a u := by
  obtain ⟨u, vs, e1, r1, r2⟩ := r
  cases (show vs = [] from r2)
  exact ⟨u, e1, r1⟩
def qMax2 : QC := fun ds S Q => ∃ i j, ds = [.int i, .int j] ∧ Q (.int (if j > i then j else i)) S
theorem c_max2 (hc : X.calm = true) : C2 X (.builtin "max") qMax2 := ⟨fun ds S Q Q' hq ⟨i, j, e, q⟩ => ⟨i, j, e, hq _ _ q⟩, _, call_max2 hc, fun ds vs S H Q w r ⟨i, j, e, q⟩ => by
  subst e
  obtain ⟨u, v, e1, r1, r2⟩ := rps2 r
  cases (show u = _ from r1)
  cases (show v = _ from r2)
  exact ⟨i, j, e1, q _ H ⟨Same.refl _, w⟩ rfl⟩⟩
def qMin2 : QC := fun ds S Q => ∃ i j, ds = [.int i, .int j] ∧ Q (.int (if j < i then j else i)) S
theorem c_min2 (hc : X.calm = true) : C2 X (.builtin "min") qMin2 := ⟨fun ds S Q Q' hq ⟨i, j, e, q⟩ => ⟨i, j, e, hq _ _ q⟩, _, call_min2 hc, fun ds vs S H Q w r ⟨i, j, e, q⟩ => by
  subst e
  obtain ⟨u, v, e1, r1, r2⟩ := rps2 r
  cases (show u = _ from r1)
  cases (show v = _ from r2)
  exact ⟨i, j, e1, q _ H ⟨Same.refl _, w⟩ rfl⟩⟩
def qLen : QC := fun ds S Q => ∃ d es, ds = [d] ∧ asQ S d = some es ∧ Q (.int es.length) S
theorem c_len : C2 X (.builtin "len") qLen := ⟨fun ds S Q Q' hq ⟨d, es, e, h, q⟩ => ⟨d, es, e, h, hq _ _ q⟩, _, call_len, fun ds vs S H Q w r ⟨d, es, e, h, q⟩ => by
  subst e
  obtain ⟨u, e1, r1⟩ := rps1 r
  obtain ⟨a, xs, e2, h1, h2⟩ := asQ_ok w r1 h
  subst e2
  refine ⟨.ref a, es.length, e1, ?_, q _ H ⟨Same.refl _, w⟩ rfl⟩
  rcases h1 with h1 | h1
  · exact .inl ⟨xs, h1, h2.length.symm⟩
  · exact .inr ⟨xs, h1, h2.length.symm⟩⟩
/-- tuple(xs) -/
def qTupOf : QC := fun ds S Q => ∃ d es, ds = [d] ∧ asQ S d = some es ∧ Q (.tup es) S
theorem c_tuple : C2 X (.type "tuple") qTupOf := ⟨fun ds S Q Q' hq ⟨d, es, e, h, q⟩ => ⟨d, es, e, h, hq _ _ q⟩, _, call_tuple_of, fun ds vs S H Q w r ⟨d, es, e, h, q⟩ => by
  subst e
  obtain ⟨u, e1, r1⟩ := rps1 r
  cases d with
  | tup fs =>
    obtain ⟨a, xs, e2, h1, h2⟩ := asT_ok r1 (show asT (.tup fs) = some es from h)
    subst e2
    refine ⟨a, xs, e1, .inr ⟨h1, q _ H ⟨Same.refl _, w⟩ ?_⟩⟩
    cases (show some fs = some es from h)
    exact r1
  | lst fs =>
    obtain ⟨a, xs, e2, h1, h2⟩ := asL_ok w r1 (show asL S (.lst fs) = some es from h)
    subst e2
    exact ⟨a, xs, e1, .inl ⟨h1, fun l hl => newT.run ⟨Same.refl _, w⟩ h2 q hl⟩⟩
  | ref c =>
    obtain ⟨a, xs, e2, h1, h2⟩ := asL_ok w r1 (show asL S (.ref c) = some es from h)
    subst e2
    exact ⟨a, xs, e1, .inl ⟨h1, fun l hl => newT.run ⟨Same.refl _, w⟩ h2 q hl⟩⟩
  | _ => cases h⟩
/-- list(xs) -/
def qLstOf : QC := fun ds S Q => ∃ d es, ds = [d] ∧ asQ S d = some es ∧ newL es S Q
theorem c_list : C2 X (.type "list") qLstOf := ⟨fun ds S Q Q' hq ⟨d, es, e, h, q⟩ => ⟨d, es, e, h, newL.mono hq q⟩, _, call_list_of, fun ds vs S H Q w r ⟨d, es, e, h, q⟩ => by
  subst e
  obtain ⟨u, e1, r1⟩ := rps1 r
  obtain ⟨a, xs, e2, h1, h2⟩ := asQ_ok w r1 h
  subst e2
  exact ⟨a, xs, e1, h1, fun l hl => newL.run ⟨Same.refl _, w⟩ h2 q hl⟩⟩
def qAll : QC := fun ds S Q => ∃ (d : Dt) (bs : List Bool), ds = [d] ∧ asL S d = some (bs.map Dt.bl) ∧ Q (.bl (bs.all id)) S
theorem c_all (hc : X.calm = true) : C2 X (.builtin "all") qAll := ⟨fun ds S Q Q' hq ⟨d, es, e, h, q⟩ => ⟨d, es, e, h, hq _ _ q⟩, _, cr_all hc, fun ds vs S H Q w r ⟨d, bs, e, h, q⟩ => by
  subst e
  obtain ⟨u, e1, r1⟩ := rps1 r
  obtain ⟨a, xs, e2, h1, h2⟩ := asL_ok w r1 h
  subst e2
  rw [h2.bls] at h1
  exact ⟨a, bs, e1, h1, q _ H ⟨Same.refl _, w⟩ rfl⟩⟩
def qSum : QC := fun ds S Q => ∃ (d : Dt) (ns : List Int), ds = [d] ∧ asL S d = some (ns.map Dt.int) ∧ Q (.int ns.sum) S
theorem c_sum (hc : X.calm = true) : C2 X (.builtin "sum") qSum := ⟨fun ds S Q Q' hq ⟨d, es, e, h, q⟩ => ⟨d, es, e, h, hq _ _ q⟩, _, cr_sum hc, fun ds vs S H Q w r ⟨d, bs, e, h, q⟩ => by
  subst e
  obtain ⟨u, e1, r1⟩ := rps1 r
  obtain ⟨a, xs, e2, h1, h2⟩ := asL_ok w r1 h
  subst e2
  rw [h2.ints] at h1
  exact ⟨a, bs, e1, h1, q _ H ⟨Same.refl _, w⟩ rfl⟩⟩
def qMaxL : QC := fun ds S Q => ∃ (d : Dt) (ns : List Int), ds = [d] ∧ asL S d = some (ns.map Dt.int) ∧ 0 < ns.length ∧ ∀ m, m ∈ ns → (∀ y, y ∈ ns → y ≤ m) → Q (.int m) S
theorem c_maxL (hc : X.calm = true) : C2 X (.builtin "max") qMaxL := ⟨fun ds S Q Q' hq ⟨d, es, e, h, h0, q⟩ => ⟨d, es, e, h, h0, fun m h1 h2 => hq _ _ (q m h1 h2)⟩, _, cr_max hc, fun ds vs S H Q w r ⟨d, bs, e, h, h0, q⟩ => by
  subst e
  obtain ⟨u, e1, r1⟩ := rps1 r
  obtain ⟨a, xs, e2, h1, h2⟩ := asL_ok w r1 h
  subst e2
  rw [h2.ints] at h1
  exact ⟨a, bs, e1, h1, h0, fun m k1 k2 => q m k1 k2 _ H ⟨Same.refl _, w⟩ rfl⟩⟩
def qMinL : QC := fun ds S Q => ∃ (d : Dt) (ns : List Int), ds = [d] ∧ asL S d = some (ns.map Dt.int) ∧ 0 < ns.length ∧ ∀ m, m ∈ ns → (∀ y, y ∈ ns → m ≤ y) → Q (.int m) S
theorem c_minL (hc : X.calm = true) : C2 X (.builtin "min") qMinL := ⟨fun ds S Q Q' hq ⟨d, es, e, h, h0, q⟩ => ⟨d, es, e, h, h0, fun m h1 h2 => hq _ _ (q m h1 h2)⟩, _, cr_min hc, fun ds vs S H Q w r ⟨d, bs, e, h, h0, q⟩ => by
  subst e
  obtain ⟨u, e1, r1⟩ := rps1 r
  obtain ⟨a, xs, e2, h1, h2⟩ := asL_ok w r1 h
  subst e2
  rw [h2.ints] at h1
  exact ⟨a, bs, e1, h1, h0, fun m k1 k2 => q m k1 k2 _ H ⟨Same.refl _, w⟩ rfl⟩⟩
/-! ### isinstance(e, T), T a built-in type -/
def tyName (S : Cells) : Dt → Option String
  | .non => some "NoneType" | .bl _ => some "bool" | .int _ => some "int" | .str _ => some "str" | .tup _ => some "tuple" | .lst _ => some "list"
  | .ref a => match S a with
    | some (.lst _) => some "list"
    | _ => none
theorem tyName_ok {K : PySem.W.Frag} {S : Cells} {H : Hp} {d : Dt} {v : V} {n : String} (w : Wd K S H) (r : Rp K (wo S H) d v) (h : tyName S d = some n) : TyX K H v (.type n) := by
  have lst : ∀ a xs, SqL K H a xs → TyX K H (.ref a) (.type "list") := fun a xs h => by
    rcases h with (h | ⟨o, h⟩) | ⟨o, its, m, h1, h2, _⟩
    · exact .base (.lst h)
    · exact .base (.frz h)
    · exact .kList h1 h2
  cases d with
  | non => cases (show v = _ from r); cases (show some _ = some n from h); exact .base .non
  | bl b => cases (show v = _ from r); cases (show some _ = some n from h); exact .base (.bl b)
  | int b => cases (show v = _ from r); cases (show some _ = some n from h); exact .base (.int b)
  | str b => cases (show v = _ from r); cases (show some _ = some n from h); exact .base (.str b)
  | tup ds =>
    cases (show some _ = some n from h)
    obtain ⟨a, xs, e, h1, h2⟩ := r
    subst e
    rcases sqT_mono wo_le h1 with (h | ⟨o, h⟩) | ⟨o, its, m, h1, h2, _⟩
    · exact .base (.tup h)
    · exact .fTuple h
    · exact .kTuple h1 h2
  | lst ds =>
    cases (show some _ = some n from h)
    obtain ⟨a, xs, e, h1, h2⟩ := r
    subst e
    exact lst a xs (sqL_mono wo_le h1)
  | ref a =>
    cases (show v = _ from r)
    have h' : (match S a with | some (.lst _) => some "list" | _ => none) = some n := h
    cases q : S a with
    | none => rw [q] at h'; cases h'
    | some c =>
      cases c with
      | ins C fs => rw [q] at h'; cases h'
      | lst es =>
        rw [q] at h'
        cases (show some _ = some n from h')
        obtain ⟨xs, h1, _⟩ := w a _ q
        exact lst a xs (SqL.of h1)
def isiD (S : Cells) (T : String) (d : Dt) : Option Bool := (tyName S d).bind fun n => kitB n T
def dIsi (T : String) (Te : TE2) : TE2 := fun x ds S Q => Te x ds S fun d S1 => ∃ b, isiD S1 T d = some b ∧ Q (.bl b) S1
theorem e_isi {T : String} {y : Str} {p q : Pos} (he : E2 X W e Te) (hm : X.mg "isinstance" = none) (hT : X.mg y = none) (hv : bootBuiltins y = some (.type T)) (hg : Gl X "isinstance" := by rfl) (hg2 : Gl X y := by rfl) (hn : y ≠ "__name__" := by decide) (hd : (y == ("__debug__" : Str)) = false := by decide)
    (he1 : starEach (e :: [.Name y q]) X.env = (false, eval e X.env) :: starEach [.Name y q] X.env := by rfl) (he2 : starEach [.Name y q] X.env = (false, eval (.Name y q) X.env) :: starEach [] X.env := by rfl) (hpl : (backTo pos (starEach [.Name y q] X.env)).any (·.1) = false := by rfl) :
    E2 X W (.Call (.Name "isinstance" p) [e, .Name y q] [] pos) (dIsi T Te) := ⟨fun x ds S Q Q' h p => he.mono x ds S _ _ (fun d S1 ⟨b, e, q⟩ => ⟨b, e, h _ _ q⟩) p, by
  obtain ⟨t, pt, rt⟩ := he.run
  refine ⟨_, pe_callB call_isi hg hm (by decide +kernel) (pa_cons pt (pa_cons (pe_bltn (v := .ty T) hg2 hT hv rfl hn hd) pa_nil he2) he1) (by decide) (by decide) he1 hpl, fun x ds S σ H Q h q => ?_⟩
  refine rt x ds S σ H _ h (he.mono x ds S _ _ (fun d S1 p1 v H1 s1 r1 => ?_) q)
  obtain ⟨b, e1, q1⟩ := p1
  unfold isiD at e1
  cases q2 : tyName S1 d with
  | none => rw [q2] at e1; cases e1
  | some n =>
    rw [q2] at e1
    exact ⟨v, .ty T, .type n, .type T, b, rfl, .ty T, tyName_ok s1.wd r1 q2, kit_ty e1, q1 _ _ s1 rfl⟩⟩
/-! ### methods -/
structure M2 (X : Cx) (T id : String) (q : Dt → List Dt → Cells → QE → Prop) : Prop where
  mono : ∀ d es S Q Q', (∀ d S', Q d S' → Q' d S') → q d es S Q → q d es S Q'
  run : ∃ r, MtR X id r ∧ ∀ d es v us S H Q, Wd X.K S H → Rp X.K (wo S H) d v → Rps X.K (wo S H) es us → q d es S (up X.K S H Q) → r v us H Q
def isLst (S : Cells) (d : Dt) : Prop := ∃ ds, asL S d = some ds
def dMt (q : Dt → List Dt → Cells → QE → Prop) (T : TE2) (TA : TA2) : TE2 := fun x ds S Q => T x ds S fun d S1 => isLst S1 d ∧ TA x ds S1 fun es S2 => q d es S2 Q
theorem e_mt {q : Dt → List Dt → Cells → QE → Prop} {o : Expr} {To : TE2} {name : Str} {apos cpos : Pos} {id : String} (slot : Slot "list" name id) (hty : typeOf (.builtin id) = pure (.type "method_descriptor")) (hm : M2 X "list" id q) (ho : E2 X W o To) (ha : A2 X W (e :: es) TA)
    (hbase : attributeBase o name X.env (eval o X.env) = eval o X.env := by rfl)
    (hfew : ((backTo cpos (starEach (e :: es) X.env)).all (fun x => !x.1) && (backToKw cpos (keywordEach [] X.env)).all (fun x => x.1.isSome)
      && decide ((e :: es).length + ([] : List Keyword).length + (if ([] : List Keyword).isEmpty then 0 else 1) < 30)) = true := by rfl)
    (hline : (apos.endLine == cpos.line) = true := by rfl) (hs : starEach (e :: es) X.env = (false, eval e X.env) :: starEach es X.env := by rfl) (hplain : (backTo cpos (starEach es X.env)).any (·.1) = false := by rfl) :
    E2 X W (.Call (.Attribute o name apos) (e :: es) [] cpos) (dMt q To TA) := ⟨fun x ds S Q Q' h p => ho.mono x ds S _ _ (fun d S1 ⟨l, p1⟩ => ⟨l, ha.mono x ds S1 _ _ (fun es S2 p2 => hm.mono _ _ _ _ _ h p2) p1⟩) p, by
  obtain ⟨t, pt, rt⟩ := ho.run
  obtain ⟨u, pu, ru⟩ := ha.run
  obtain ⟨r, pr, rr⟩ := hm.run
  refine ⟨_, pe_bm PySem.F.plainAttrs_list slot hty pr pt pu hbase hfew hline hs hplain, fun x ds S σ H Q h p => ?_⟩
  refine rt x ds S σ H _ h (ho.mono x ds S _ _ (fun d S1 ⟨⟨fs, hl⟩, p1⟩ v H1 s1 r1 => ?_) p)
  obtain ⟨a, xs, e1, h1, _⟩ := asL_ok s1.wd r1 hl
  subst e1
  refine ⟨.inl ⟨rfl, xs, h1⟩, ?_⟩
  refine ru x ds S1 σ H1 _ (h.step s1) (ha.mono x ds S1 _ _ (fun es S2 p2 us H2 s2 r2 => ?_) p1)
  exact rr d es _ us S2 H2 Q s2.wd (r1.mono s2.same) r2 (hm.mono _ _ _ _ _ (fun z S3 q3 => q3.step (s1.trans s2)) p2)⟩
theorem e_mt0 {q : Dt → List Dt → Cells → QE → Prop} {o : Expr} {To : TE2} {name : Str} {apos cpos : Pos} {id : String} (slot : Slot "list" name id) (hty : typeOf (.builtin id) = pure (.type "method_descriptor")) (hm : M2 X "list" id q) (ho : E2 X W o To)
    (hbase : attributeBase o name X.env (eval o X.env) = eval o X.env := by rfl) (hline : (apos.endLine == cpos.line) = true := by rfl) :
    E2 X W (.Call (.Attribute o name apos) [] [] cpos) (dMt q To dNil) := ⟨fun x ds S Q Q' h p => ho.mono x ds S _ _ (fun d S1 ⟨l, p1⟩ => ⟨l, hm.mono _ _ _ _ _ h p1⟩) p, by
  obtain ⟨t, pt, rt⟩ := ho.run
  obtain ⟨r, pr, rr⟩ := hm.run
  refine ⟨_, pe_bm0 PySem.F.plainAttrs_list slot hty pr pt hbase hline, fun x ds S σ H Q h p => ?_⟩
  refine rt x ds S σ H _ h (ho.mono x ds S _ _ (fun d S1 ⟨⟨fs, hl⟩, p1⟩ v H1 s1 r1 => ?_) p)
  obtain ⟨a, xs, e1, h1, _⟩ := asL_ok s1.wd r1 hl
  subst e1
  refine ⟨.inl ⟨rfl, xs, h1⟩, ?_⟩
  exact rr d [] _ [] S1 H1 Q s1.wd r1 rfl (hm.mono _ _ _ _ _ (fun z S3 q3 => q3.step s1) p1)⟩
def qAppend : Dt → List Dt → Cells → QE → Prop := fun d es S Q => ∃ a ds z, d = .ref a ∧ es = [z] ∧ S a = some (.lst ds) ∧ ds.length < 100000 ∧ Q .non (S.put a (.lst (ds ++ [z])))
theorem m_append : M2 X "list" "list.append" qAppend := ⟨fun d es S Q Q' hq ⟨a, ds, z, h1, h2, h3, h4, q⟩ => ⟨a, ds, z, h1, h2, h3, h4, hq _ _ q⟩, _, mt_append, fun d es v us S H Q w r rs ⟨a, ds, z, h1, h2, h3, h4, q⟩ => by
  subst h1 h2
  obtain ⟨u, e1, r1⟩ := rps1 rs
  obtain ⟨xs, k1, k2⟩ := w a _ h3
  have hS : S a ≠ none ∨ H a = none := .inl (by rw [h3]; intro z; cases z)
  refine ⟨a, xs, u, r, e1, k1, by rw [k2.length]; exact Nat.lt_of_lt_of_le h4 (by decide), q _ _ ⟨?_, put_wd w hS ⟨_, upd_same, k2.app (Rps.one r1)⟩⟩ rfl⟩
  rw [put_wo _ hS]
  exact Same.refl _⟩
def qPop : Dt → List Dt → Cells → QE → Prop := fun d es S Q => ∃ a ds z, d = .ref a ∧ es = [] ∧ S a = some (.lst ds) ∧ ds[ds.length - 1]? = some z ∧ Q z (S.put a (.lst ds.dropLast))
theorem Rps.dropLast {K : PySem.W.Frag} {I : Hp} {ds : List Dt} {xs : List V} (h : Rps K I ds xs) : Rps K I ds.dropLast xs.dropLast := by
  rw [List.dropLast_eq_take, List.dropLast_eq_take, h.length]
  exact Rps.take _ h
theorem m_pop : M2 X "list" "list.pop" qPop := ⟨fun d es S Q Q' hq ⟨a, ds, z, h1, h2, h3, h4, q⟩ => ⟨a, ds, z, h1, h2, h3, h4, hq _ _ q⟩, _, mt_pop, fun d es v us S H Q w r rs ⟨a, ds, z, h1, h2, h3, h4, q⟩ => by
  subst h1 h2
  cases (show us = [] from rs)
  obtain ⟨xs, k1, k2⟩ := w a _ h3
  have hS : S a ≠ none ∨ H a = none := .inl (by rw [h3]; intro z; cases z)
  rw [← k2.length] at h4
  have hwo := put_wo (H := H) (o := .lst xs.dropLast) (.lst ds.dropLast) hS
  obtain ⟨u, g1, g2⟩ := k2.get (i := xs.length - 1) h4
  refine ⟨a, xs, u, r, rfl, k1, g1, q _ _ ⟨?_, put_wd w hS ⟨_, upd_same, k2.dropLast⟩⟩ ?_⟩
  · rw [hwo]
    exact Same.refl _
  · rw [hwo]
    exact g2⟩
end
end Sc

namespace Sc
open PySem PySem.Spec PyProof.Rows L2
section
variable {X : Cx} {W : WX} {a b c e : Expr} {es : List Expr} {Ta Tb Tc Te : TE2} {Tt Tu : TT2} {TA : TA2} {pos : Pos} {st : Stmt} {rest body : List Stmt} {T U : TS2}
theorem Ends2.Le.withN {D D' : Ends2} (h : D.Le D') {n n' : Ds → Cells → Prop} (hn : ∀ ds S, n ds S → n' ds S) : Ends2.Le { D with nx := n } { D' with nx := n' } := ⟨hn, h.rt, h.bk, h.ct⟩
def dNext : TS2 := fun _ D ds S => D.nx ds S
def dSeq (T U : TS2) : TS2 := fun x D ds S => T x { D with nx := fun ds' S' => U x D ds' S' } ds S
theorem b_nil : B2 X W [] dNext := ⟨fun x ds S D D' h q => h.nx _ _ q, _, pss_nil, fun x ds S σ H D h q => q σ H h.refl h.rs⟩
theorem b_cons (h1 : S2 X W st T) (h2 : B2 X W rest U) : B2 X W (st :: rest) (dSeq T U) := ⟨fun x ds S D D' h q => h1.mono x ds S _ _ (h.withN fun ds' S' q' => h2.mono x ds' S' _ _ h q') q, by
  obtain ⟨t, p, r⟩ := h1.run
  obtain ⟨u, p', r'⟩ := h2.run
  refine ⟨_, pss_cons p p', fun x ds S σ H D h q => ?_⟩
  refine r x ds S σ H { D with nx := u D } h (h1.mono x ds S { upD X.K S H D with nx := fun ds' S' => U x (upD X.K S H D) ds' S' } _ ⟨fun ds' S' q' σ' H' s' rs' => ?_, fun _ _ q => q, fun _ _ q => q, fun _ _ q => q⟩ q)
  have h' := h.step s'
  exact r' x ds' S' σ' H' D ⟨rs', s'.wd, h'.xe⟩ (h2.mono x ds' S' _ _ (upD.step s') q')⟩
theorem b_one (h1 : S2 X W st T) : B2 X W [st] T := ⟨h1.mono, by
  obtain ⟨t, p, r⟩ := h1.run
  exact ⟨_, pss_one p, r⟩⟩
/-- code that the proof never comes to -/
def dNever : TS2 := fun _ _ _ _ => False
theorem s_never : S2 X W st dNever := ⟨fun _ _ _ _ _ _ q => q.elim, _, ps_never, fun _ _ _ _ _ _ _ q => q.elim⟩
theorem b_never {sts : List Stmt} : B2 X W sts dNever := ⟨fun _ _ _ _ _ _ q => q.elim, _, pss_never, fun _ _ _ _ _ _ _ q => q.elim⟩
theorem s_pass : S2 X W (.Pass pos) dNext := ⟨fun x ds S D D' h q => h.nx _ _ q, _, ps_pass, fun x ds S σ H D h q => q σ H h.refl h.rs⟩
def dDrop (Te : TE2) : TS2 := fun x D ds S => Te x ds S fun _ S1 => D.nx ds S1
theorem s_expr (he : E2 X W e Te) (hs : swapsWith e none pos.line X.env = pure false := by rfl) : S2 X W (.Expr e pos) (dDrop Te) := ⟨fun x ds S D D' h q => he.mono x ds S _ _ (fun _ S1 q => h.nx _ _ q) q, by
  obtain ⟨t, p, r⟩ := he.run
  exact ⟨_, ps_expr p hs, fun x ds S σ H D h q => r x ds S σ H _ h (he.mono x ds S _ _ (fun _ S1 q v H1 s1 r1 => q σ H1 s1 (h.rs.mono s1.same)) q)⟩⟩
def dRet (Te : TE2) : TS2 := fun x D ds S => Te x ds S D.rt
theorem s_ret (he : E2 X W e Te) : S2 X W (.Return (some e) pos) (dRet Te) := ⟨fun x ds S D D' h q => he.mono x ds S _ _ h.rt q, by
  obtain ⟨t, p, r⟩ := he.run
  exact ⟨_, ps_ret p, fun x ds S σ H D h q => r x ds S σ H _ h q⟩⟩
def dIfS (Tt : TT2) (T U : TS2) : TS2 := fun x D ds S => Tt x ds S fun k S1 => if k = true then T x D ds S1 else U x D ds S1
theorem s_if {pa pb : List Stmt} (hc : T2 X W c Tt) (ha : B2 X W pa T) (hb : B2 X W pb U) : S2 X W (.If c pa pb pos) (dIfS Tt T U) := ⟨fun x ds S D D' h q => hc.mono x ds S _ _ (fun k S1 q => ite_mono q (fun q => ha.mono x ds S1 _ _ h q) (fun q => hb.mono x ds S1 _ _ h q)) q, by
  obtain ⟨tc, pc, rc⟩ := hc.run
  obtain ⟨ta, pa, ra⟩ := ha.run
  obtain ⟨tb, pb, rb⟩ := hb.run
  refine ⟨_, ps_if pc pa pb, fun x ds S σ H D h q => rc x ds S σ H _ h (hc.mono x ds S _ _ (fun k S1 q H1 s1 => ?_) q)⟩
  exact ite_mono q (fun q => ra x ds S1 σ H1 D (h.step s1) (ha.mono x ds S1 _ _ (upD.step s1) q)) (fun q => rb x ds S1 σ H1 D (h.step s1) (hb.mono x ds S1 _ _ (upD.step s1) q))⟩
/-! ### stores -/
def dSet (i : Nat) (Te : TE2) : TS2 := fun x D ds S => Te x ds S fun d S1 => D.nx (ds.set i (some d)) S1
theorem s_set (i : Nat) {y : Str} {p : Pos} (hN : X.N.Nodup) (he : E2 X W e Te) (hi : X.N[i]? = some y := by rfl) (hx : Loc X.env.scope y := by first | exact Or.inl rfl | exact Or.inr rfl) (hs : swapsWith e (some (.Name y p)) pos.line X.env = pure false := by rfl)
    (hf : X.fn y = true ∨ X.env.scope.names.lookup y = some .local := by first | exact .inl rfl | exact .inr rfl) : S2 X W (.Assign [.Name y p] e pos) (dSet i Te) := ⟨fun x ds S D D' h q => he.mono x ds S _ _ (fun _ S1 q => h.nx _ _ q) q, by
  obtain ⟨t, p, r⟩ := he.run
  exact ⟨_, ps_set hN hi hx p hs hf, fun x ds S σ H D h q => r x ds S σ H _ h (he.mono x ds S _ _ (fun d S1 q v H1 s1 r1 => q _ H1 s1 ((h.rs.mono s1.same).set r1)) q)⟩⟩
/-- x op= e -/
def dAug (i : Nat) (q : QO) (Te : TE2) : TS2 := fun x D ds S => ∃ d, ds[i]? = some (some d) ∧ Te x ds S fun e S1 => q d e S1 fun z S2 => D.nx (ds.set i (some z)) S2
theorem s_aug (i : Nat) {y : Str} {p : Pos} {op : Operator} {q : QO} (hN : X.N.Nodup) (ho : O2 X (inplaceOp op) q) (he : E2 X W e Te) (hi : X.N[i]? = some y := by rfl) (hx : Loc X.env.scope y := by first | exact Or.inl rfl | exact Or.inr rfl)
    (hf : X.fn y = true ∨ X.env.scope.names.lookup y = some .local := by first | exact .inl rfl | exact .inr rfl) : S2 X W (.AugAssign (.Name y p) op e pos) (dAug i q Te) := ⟨fun x ds S D D' h ⟨d, e1, q1⟩ => ⟨d, e1, he.mono x ds S _ _ (fun z S1 q => ho.mono _ _ _ _ _ (fun _ _ q => h.nx _ _ q) q) q1⟩, by
  obtain ⟨t, p, r⟩ := he.run
  obtain ⟨ro, po, rr⟩ := ho.run
  refine ⟨_, ps_aug (ti := ro) hN hi hx p (fun pins s σ H x y v u Q I rx ry q => po pins s σ H x y v u Q I rx ry q) hf, fun x ds S σ H D h ⟨d, e1, q1⟩ => ?_⟩
  obtain ⟨v, k1, k2⟩ := h.rs.2 i d e1
  refine ⟨v, k1, r x ds S σ H _ h (he.mono x ds S _ _ (fun z S1 q u H1 s1 r1 => ?_) q1)⟩
  exact rr d z v u S1 H1 _ s1.wd (k2.mono s1.same) r1 (ho.mono _ _ _ _ _ (fun f S2 q2 v2 H2 s2 r2 => q2 _ H2 (s1.trans s2) ((h.rs.mono (s1.trans s2).same).set r2)) q)⟩
theorem o_iadd : O2 X (inplaceOp .Add) (qI0 fun i j => .int (i + j)) := o_I0 iop_add
theorem o_isub : O2 X (inplaceOp .Sub) (qI0 fun i j => .int (i - j)) := o_I0 iop_sub
theorem o_imul : O2 X (inplaceOp .Mult) (qI CMul fun i j => .int (i * j)) := o_I iop_mul
/-- a, b = e1, e2 -/
def dPar (i j : Nat) (T : TA2) : TS2 := fun x D ds S => T x ds S fun es S1 => ∃ d e, es = [d, e] ∧ D.nx ((ds.set i (some d)).set j (some e)) S1
theorem s_par (i j : Nat) {y z : Str} {py pz pt : Pos} {kt k2 pt2} (hc : X.calm = true) (hN : X.N.Nodup) (ha : A2 X W [a, b] TA) (hi : X.N[i]? = some y := by rfl) (hj : X.N[j]? = some z := by rfl) (hij : i ≠ j := by decide)
    (hy : X.env.scope.names.lookup y = some .local := by rfl) (hz : X.env.scope.names.lookup z = some .local := by rfl)
    (hw : swappedStores [.Tuple [.Name y py, .Name z pz] kt pt] (.Tuple [a, b] k2 pt2) X.env = pure (some [y, z]) := by rfl)
    (hs : swapsWithSole [.Tuple [.Name y py, .Name z pz] kt pt] (.Tuple [a, b] k2 pt2) pos.line X.env = pure false := by rfl) :
    S2 X W (.Assign [.Tuple [.Name y py, .Name z pz] kt pt] (.Tuple [a, b] k2 pt2) pos) (dPar i j TA) := ⟨fun x ds S D D' h q => ha.mono x ds S _ _ (fun _ S1 ⟨d, e, e1, q⟩ => ⟨d, e, e1, h.nx _ _ q⟩) q, by
  obtain ⟨t, p, r⟩ := ha.run
  refine ⟨_, ps_par hc hN hi hj hij hy hz p hw hs, fun x ds S σ H D h q => r x ds S σ H _ h (ha.mono x ds S _ _ (fun es S1 ⟨d, e, e1, q⟩ vs H1 s1 r1 => ?_) q)⟩
  subst e1
  obtain ⟨u, v, e2, r2, r3⟩ := rps2 r1
  exact ⟨u, v, e2, q _ H1 s1 (((h.rs.mono s1.same).set r2).set r3)⟩⟩
def dPar3 (i j l : Nat) (T : TA2) : TS2 := fun x D ds S => T x ds S fun es S1 => ∃ d e f, es = [d, e, f] ∧ D.nx (((ds.set i (some d)).set j (some e)).set l (some f)) S1
theorem s_par3 (i j l : Nat) {y z u : Str} {py pz pu pt : Pos} {kt k2 pt2} (hc : X.calm = true) (hN : X.N.Nodup) (ha : A2 X W [a, b, c] TA) (hi : X.N[i]? = some y := by rfl) (hj : X.N[j]? = some z := by rfl) (hl : X.N[l]? = some u := by rfl) (hij : i ≠ j := by decide) (hil : i ≠ l := by decide) (hjl : j ≠ l := by decide)
    (hy : X.env.scope.names.lookup y = some .local := by rfl) (hz : X.env.scope.names.lookup z = some .local := by rfl) (hu : X.env.scope.names.lookup u = some .local := by rfl)
    (hw : swappedStores [.Tuple [.Name y py, .Name z pz, .Name u pu] kt pt] (.Tuple [a, b, c] k2 pt2) X.env = pure (some [y, z, u]) := by rfl)
    (hs : swapsWithSole [.Tuple [.Name y py, .Name z pz, .Name u pu] kt pt] (.Tuple [a, b, c] k2 pt2) pos.line X.env = pure false := by rfl) :
    S2 X W (.Assign [.Tuple [.Name y py, .Name z pz, .Name u pu] kt pt] (.Tuple [a, b, c] k2 pt2) pos) (dPar3 i j l TA) := ⟨fun x ds S D D' h q => ha.mono x ds S _ _ (fun _ S1 ⟨d, e, f, e1, q⟩ => ⟨d, e, f, e1, h.nx _ _ q⟩) q, by
  obtain ⟨t, p, r⟩ := ha.run
  refine ⟨_, ps_par3 hc hN hi hj hl hij hil hjl hy hz hu p hw hs, fun x ds S σ H D h q => r x ds S σ H _ h (ha.mono x ds S _ _ (fun es S1 ⟨d, e, f, e1, q⟩ vs H1 s1 r1 => ?_) q)⟩
  subst e1
  obtain ⟨u1, us, e2, r2, r3⟩ := r1
  obtain ⟨u2, u3, e4, r4, r5⟩ := rps2 r3
  subst e4
  exact ⟨u1, u2, u3, e2, q _ H1 s1 ((((h.rs.mono s1.same).set r2).set r4).set r5)⟩⟩
/-! ### targets -/
abbrev TG2 := Dt → Ds → Cells → (Ds → Cells → Prop) → Prop
structure G2 (X : Cx) (W : WX) (tg : Expr) (T : TG2) : Prop where
  mono : ∀ d ds S Q Q', (∀ d S', Q d S' → Q' d S') → T d ds S Q → T d ds S Q'
  run : ∃ t, PG X tg t ∧ ∀ d v x ds S σ H Q, Here X.K W x ds S σ H → Rp X.K (wo S H) d v → T d ds S (upS X.K S H Q) → t v σ H Q
abbrev TGs2 := List Dt → Ds → Cells → (Ds → Cells → Prop) → Prop
structure Gs2 (X : Cx) (W : WX) (ts : List Expr) (T : TGs2) : Prop where
  mono : ∀ d ds S Q Q', (∀ d S', Q d S' → Q' d S') → T d ds S Q → T d ds S Q'
  run : ∃ t, PGs X ts t ∧ ∀ d v x ds S σ H Q, Here X.K W x ds S σ H → Rps X.K (wo S H) d v → T d ds S (upS X.K S H Q) → t v σ H Q
def kName (i : Nat) : TG2 := fun d ds S Q => Q (ds.set i (some d)) S
theorem g_name (i : Nat) {y : Str} (hN : X.N.Nodup) (hi : X.N[i]? = some y := by rfl) (hx : Loc X.env.scope y := by first | exact Or.inl rfl | exact Or.inr rfl) (hf : X.fn y = true ∨ X.env.scope.names.lookup y = some .local := by first | exact .inl rfl | exact .inr rfl) :
    G2 X W (.Name y pos) (kName i) := ⟨fun d ds S Q Q' h q => h _ _ q, _, pg_name hN hi hx hf, fun d v x ds S σ H Q h r q => q _ H h.refl (h.rs.set r)⟩
def kNil : TGs2 := fun es ds S Q => es = [] ∧ Q ds S
def kCons (T : TG2) (U : TGs2) : TGs2 := fun es ds S Q => ∃ d r, es = d :: r ∧ T d ds S fun ds1 S1 => U r ds1 S1 Q
theorem gs_nil : Gs2 X W [] kNil := ⟨fun d ds S Q Q' h ⟨e, q⟩ => ⟨e, h _ _ q⟩, _, pgs_nil, fun d v x ds S σ H Q h r ⟨e, q⟩ => by
  subst e
  exact ⟨r, q _ H h.refl h.rs⟩⟩
theorem gs_cons {T : TG2} {U : TGs2} (h1 : G2 X W e T) (h2 : Gs2 X W es U) (hs : (assignEach (e :: es) X.env).map (·.2) = assign e X.env :: (assignEach es X.env).map (·.2) := by rfl) : Gs2 X W (e :: es) (kCons T U) := ⟨fun d ds S Q Q' h ⟨d1, r, e, q⟩ =>
    ⟨d1, r, e, h1.mono _ _ _ _ _ (fun ds1 S1 q1 => h2.mono _ _ _ _ _ h q1) q⟩, by
  obtain ⟨t, p, r⟩ := h1.run
  obtain ⟨u, p', r'⟩ := h2.run
  refine ⟨_, pgs_cons p p' hs, fun d v x ds S σ H Q h rs ⟨d1, r1, e, q⟩ => ?_⟩
  subst e
  obtain ⟨v1, vs, e1, k1, k2⟩ := rs
  refine ⟨v1, vs, e1, r d1 v1 x ds S σ H _ h k1 (h1.mono _ _ _ _ _ (fun ds1 S1 q1 σ1 H1 s1 rs1 => ?_) q)⟩
  exact r' r1 vs x ds1 S1 σ1 H1 Q ⟨rs1, s1.wd, (h.step s1).xe⟩ (k2.mono s1.same) (h2.mono _ _ _ _ _ (fun ds2 S2 q2 => q2.step s1) q1)⟩
def kTup (n : Nat) (T : TGs2) : TG2 := fun d ds S Q => ∃ es, asT d = some es ∧ es.length = n ∧ T es ds S Q
theorem g_tup {k n : Nat} {T : TGs2} (hc : X.calm = true) (h : Gs2 X W es T) (hn : (assignEach es X.env).length = n := by rfl) (hst : (assignEach es X.env).findIdx? (·.1) = none := by rfl) : G2 X W (.Tuple es k pos) (kTup n T) := ⟨fun d ds S Q Q' hq ⟨fs, e, l, q⟩ => ⟨fs, e, l, h.mono _ _ _ _ _ hq q⟩, by
  obtain ⟨t, p, r⟩ := h.run
  refine ⟨_, pg_tup hc p hn hst, fun d v x ds S σ H Q hh rv ⟨fs, e, l, q⟩ => ?_⟩
  obtain ⟨a, xs, e1, k1, k2⟩ := asT_ok rv e
  exact ⟨a, xs, e1, k1, by rw [k2.length]; exact l, r fs xs x ds S σ H Q hh k2 q⟩⟩
/-- target = value -/
def dAsg (Te : TE2) (G : TG2) : TS2 := fun x D ds S => Te x ds S fun d S1 => G d ds S1 D.nx
theorem s_asg {tg : Expr} {G : TG2} (he : E2 X W e Te) (hg : G2 X W tg G) (hs : swapsWithSole [tg] e pos.line X.env = pure false := by rfl) (hw : swappedStores [tg] e X.env = pure none := by rfl)
    (h1 : (assignEach [tg] X.env).map (·.2) = [assign tg X.env] := by rfl) : S2 X W (.Assign [tg] e pos) (dAsg Te G) := ⟨fun x ds S D D' h q => he.mono x ds S _ _ (fun d S1 q => hg.mono _ _ _ _ _ h.nx q) q, by
  obtain ⟨t, p, r⟩ := he.run
  obtain ⟨g, pg, rg⟩ := hg.run
  refine ⟨_, ps_asg p pg hs hw h1, fun x ds S σ H D h q => r x ds S σ H _ h (he.mono x ds S _ _ (fun d S1 q v H1 s1 r1 => ?_) q)⟩
  exact rg d v x ds S1 σ H1 _ (h.step s1) r1 (hg.mono _ _ _ _ _ (fun ds2 S2 q2 => q2.step s1) q)⟩
/-- o[i] = v, o a list that may change -/
def kSub (Ta Tb : TE2) : XK2 → TG2 := fun x d ds S Q => Ta x ds S fun o S1 => Tb x ds S1 fun i S2 => ∃ p k j fs, o = .ref p ∧ i = .int k ∧ S2 p = some (.lst fs) ∧ ixN fs.length k = some j ∧ Q ds (S2.put p (.lst (fs.set j d)))
def dStore (Te Ta Tb : TE2) : TS2 := fun x D ds S => Te x ds S fun d S1 => kSub Ta Tb x d ds S1 D.nx
theorem s_store (he : E2 X W e Te) (ha : E2 X W a Ta) (hb : E2 X W b Tb)
    (hset : ∀ v, assign (.Subscript a b pos) X.env v = (do
      let ov ← holding [v] (eval a X.env)
      let iv ← holding [v, ov] (eval b X.env)
      standAt pos
      holding [v, ov, iv] (setItem ov iv v)
      release [v, ov, iv] []) := by intro _; rfl) {pos2 : Pos}
    (hs : swapsWithSole [.Subscript a b pos] e pos2.line X.env = pure false := by rfl) (hw : swappedStores [.Subscript a b pos] e X.env = pure none := by rfl)
    (h1 : (assignEach [.Subscript a b pos] X.env).map (·.2) = [assign (.Subscript a b pos) X.env] := by rfl) : S2 X W (.Assign [.Subscript a b pos] e pos2) (dStore Te Ta Tb) := ⟨fun x ds S D D' h q => he.mono x ds S _ _ (fun d S1 q =>
    ha.mono x ds S1 _ _ (fun o S2 q => hb.mono x ds S2 _ _ (fun i S3 ⟨p, k, j, fs, e1, e2, e3, e4, q⟩ => ⟨p, k, j, fs, e1, e2, e3, e4, h.nx _ _ q⟩) q) q) q, by
  obtain ⟨te, pe, re⟩ := he.run
  obtain ⟨ta, pa, ra⟩ := ha.run
  obtain ⟨tb, pb, rb⟩ := hb.run
  refine ⟨_, ps_asg pe (pg_sub pa pb set_list hset) hs hw h1, fun x ds S σ H D h q => ?_⟩
  refine re x ds S σ H _ h (he.mono x ds S _ _ (fun d S1 q v H1 s1 r1 => ?_) q)
  refine ra x ds S1 σ H1 _ (h.step s1) (ha.mono x ds S1 _ _ (fun o S2 q ov H2 s2 r2 => ?_) q)
  refine rb x ds S2 σ H2 _ (h.step (s1.trans s2)) (hb.mono x ds S2 _ _ (fun i S3 ⟨p, k, j, fs, e1, e2, e3, e4, q5⟩ iv H3 s3 r3 => ?_) q)
  subst e1 e2
  obtain ⟨xs, k1, k2⟩ := s3.wd p _ e3
  have hS : S3 p ≠ none ∨ H3 p = none := .inl (by rw [e3]; intro z; cases z)
  have rd := r1.mono (s2.trans s3).same
  refine ⟨p, xs, k, j, r2, r3, k1, by rw [k2.length]; exact e4, ?_⟩
  have w0 := put_wo (H := H3) (o := .lst (xs.set j v)) (.lst (fs.set j d)) hS
  have s4 : Step X.K S3 H3 (S3.put p (.lst (fs.set j d))) (upd H3 p (.lst (xs.set j v))) := ⟨by rw [w0]; exact Same.refl _, put_wd s3.wd hS ⟨_, upd_same, k2.set j rd⟩⟩
  exact q5 σ _ (s1.trans (s2.trans (s3.trans s4))) (h.rs.mono (s1.trans (s2.trans (s3.trans s4))).same)⟩
/-! ### what is walked -/
abbrev TI2 := XK2 → Ds → Cells → (List Dt → Cells → Prop) → Prop
/-- the iterator J gives the items, in every later world -/
def Yields (K : PySem.W.Frag) (J : It) (items : List Dt) (S1 : Cells) (H1 : Hp) : Prop := ∀ S H, Step K S1 H1 S H →
  (∀ i, i < items.length → J.go i H) ∧ (∀ i, items.length ≤ i → J.stop i H) ∧ ∀ i v H' d, J.yld i H v H' → items[i]? = some d → Step K S H S H' ∧ Rp K (wo S H') d v
structure J2 (X : Cx) (W : WX) (tg iter : Expr) (T : TI2) : Prop where
  mono : ∀ x ds S Q Q', (∀ d S', Q d S' → Q' d S') → T x ds S Q → T x ds S Q'
  run : ∃ wi, PI X tg iter wi ∧ ∀ x ds S σ H R, Here X.K W x ds S σ H → T x ds S (fun items S1 => ∀ H1 J, Step X.K S H S1 H1 → Yields X.K J items S1 H1 → R J H1) → wi σ H R
/-- a tuple, a list that does not change -/
def dIt (Te : TE2) : TI2 := fun x ds S Q => Te x ds S fun d S1 => ∃ es, d = .tup es ∧ Q es S1
def dItL (Te : TE2) : TI2 := fun x ds S Q => Te x ds S fun d S1 => ∃ es, d = .lst es ∧ Q es S1
theorem j_tup {tg : Expr} (he : E2 X W e Te) : J2 X W tg e (dIt Te) := ⟨fun x ds S Q Q' h q => he.mono x ds S _ _ (fun d S1 ⟨es, e, q⟩ => ⟨es, e, h _ _ q⟩) q, by
  obtain ⟨t, p, r⟩ := he.run
  refine ⟨_, pi_tup p, fun x ds S σ H R h q => r x ds S σ H _ h (he.mono x ds S _ _ (fun d S1 ⟨es, e, q⟩ v H1 s1 r1 => ?_) q)⟩
  subst e
  obtain ⟨a, xs, e1, k1, k2⟩ := r1
  have g : SqT X.K H1 a xs := sqT_mono wo_le k1
  refine ⟨a, e1, ⟨xs, g⟩, q H1 _ s1 fun S2 H2 s2 => ?_⟩
  have g2 : SqT X.K H2 a xs := sqT_mono wo_le (sqT_mono s2.same k1)
  have kk := k2.mono s2.same
  refine ⟨fun i hi => ?_, fun i hi => ⟨xs, g2, by rw [k2.length]; exact hi⟩, fun i v H' d hy hd => ?_⟩
  · have hi' : i < xs.length := by rw [k2.length]; exact hi
    exact ⟨xs, xs[i], g2, List.getElem?_eq_getElem hi'⟩
  · obtain ⟨e2, hv⟩ := hy
    subst e2
    obtain ⟨u, k3, k4⟩ := kk.get hd
    have := (hv xs g2).symm.trans k3
    cases this
    exact ⟨⟨Same.refl _, s2.wd⟩, k4⟩⟩
theorem j_lst {tg : Expr} (he : E2 X W e Te) : J2 X W tg e (dItL Te) := ⟨fun x ds S Q Q' h q => he.mono x ds S _ _ (fun d S1 ⟨es, e, q⟩ => ⟨es, e, h _ _ q⟩) q, by
  obtain ⟨t, p, r⟩ := he.run
  refine ⟨_, pi_list p, fun x ds S σ H R h q => r x ds S σ H _ h (he.mono x ds S _ _ (fun d S1 ⟨es, e, q⟩ v H1 s1 r1 => ?_) q)⟩
  subst e
  obtain ⟨a, xs, e1, k1, k2⟩ := r1
  have g : SqL X.K H1 a xs := sqL_mono wo_le k1
  refine ⟨a, e1, ⟨xs, g⟩, q H1 _ s1 fun S2 H2 s2 => ?_⟩
  have g2 : SqL X.K H2 a xs := sqL_mono wo_le (sqL_mono s2.same k1)
  have kk := k2.mono s2.same
  refine ⟨fun i hi => ?_, fun i hi => ⟨xs, g2, by rw [k2.length]; exact hi⟩, fun i v H' d hy hd => ?_⟩
  · have hi' : i < xs.length := by rw [k2.length]; exact hi
    exact ⟨xs, xs[i], g2, List.getElem?_eq_getElem hi'⟩
  · obtain ⟨e2, hv⟩ := hy
    subst e2
    obtain ⟨u, k3, k4⟩ := kk.get hd
    have := (hv xs g2).symm.trans k3
    cases this
    exact ⟨⟨Same.refl _, s2.wd⟩, k4⟩⟩
/-- range(n), range(a, b) -/
def rng (lo : Int) (n : Nat) : List Dt := (List.range n).map fun (i : Nat) => .int (lo + (i : Int))
theorem rng_len {lo : Int} {n : Nat} : (rng lo n).length = n := by simp [rng]
theorem rng_get {lo : Int} {n i : Nat} {d : Dt} (h : (rng lo n)[i]? = some d) : d = .int (lo + (i : Int)) := by
  have hi : i < n := by
    have := (List.getElem?_eq_some_iff.mp h).1
    rw [rng_len] at this
    exact this
  unfold rng at h
  rw [List.getElem?_map, List.getElem?_range hi] at h
  exact (Option.some.inj h).symm
theorem yields_rng {K : PySem.W.Frag} {lo : Int} {n : Nat} {S1 : Cells} {H1 : Hp} : Yields K (Itr lo n) (rng lo n) S1 H1 := fun S H s => by
  refine ⟨fun i hi => by rw [rng_len] at hi; exact hi, fun i hi => by rw [rng_len] at hi; exact hi, fun i v H' d hy hd => ?_⟩
  obtain ⟨e, hv⟩ := hy
  subst e
  rw [rng_get hd]
  exact ⟨⟨Same.refl _, s.wd⟩, hv⟩
def dRng1 (Te : TE2) : TI2 := fun x ds S Q => Te x ds S fun d S1 => ∃ n, d = .int n ∧ -1000000000000000000 ≤ n ∧ n < 1000000000000000000 ∧ Q (rng 0 n.toNat) S1
theorem j_range1 {tg : Expr} {p : Pos} (he : E2 X W e Te) (hm : X.mg "range" = none) (hg : Gl X "range" := by rfl) (hs : starEach [e] X.env = [(false, eval e X.env)] := by rfl) : J2 X W tg (.Call (.Name "range" p) [e] [] pos) (dRng1 Te) := ⟨fun x ds S Q Q' h q =>
    he.mono x ds S _ _ (fun d S1 ⟨n, e, h1, h2, q⟩ => ⟨n, e, h1, h2, h _ _ q⟩) q, by
  obtain ⟨t, p, r⟩ := he.run
  refine ⟨_, pi_range1 hg hm (pa_cons p pa_nil (by rw [hs]; rfl)) hs, fun x ds S σ H R h q => r x ds S σ H _ h (he.mono x ds S _ _ (fun d S1 ⟨n, e, h1, h2, q⟩ v H1 s1 r1 => ?_) q)⟩
  subst e
  cases (show v = _ from r1)
  exact ⟨n, rfl, by omega, by omega, q H1 _ s1 yields_rng⟩⟩
def dRng2 (Ta Tb : TE2) : TI2 := fun x ds S Q => Ta x ds S fun d S1 => Tb x ds S1 fun e S2 => ∃ i j, d = .int i ∧ e = .int j ∧ (-1000000000000000000 ≤ i ∧ i < 1000000000000000000 ∧ -1000000000000000000 ≤ j ∧ j < 1000000000000000000) ∧ Q (rng i (j - i).toNat) S2
theorem j_range2 {tg : Expr} {p : Pos} (ha : E2 X W a Ta) (hb : E2 X W b Tb) (hm : X.mg "range" = none) (hg : Gl X "range" := by rfl) (hs : starEach [a, b] X.env = [(false, eval a X.env), (false, eval b X.env)] := by rfl) (hs2 : starEach [b] X.env = [(false, eval b X.env)] := by rfl) :
    J2 X W tg (.Call (.Name "range" p) [a, b] [] pos) (dRng2 Ta Tb) := ⟨fun x ds S Q Q' h q =>
    ha.mono x ds S _ _ (fun d S1 q => hb.mono x ds S1 _ _ (fun e S2 ⟨i, j, e1, e2, h1, q⟩ => ⟨i, j, e1, e2, h1, h _ _ q⟩) q) q, by
  obtain ⟨t, p, r⟩ := ha.run
  obtain ⟨t', p', r'⟩ := hb.run
  refine ⟨_, pi_range2 hg hm (pa_cons p (pa_cons p' pa_nil (by rw [hs2]; rfl)) (by rw [hs, hs2])) hs hs2, fun x ds S σ H R h q => ?_⟩
  refine r x ds S σ H _ h (ha.mono x ds S _ _ (fun d S1 q v H1 s1 r1 => ?_) q)
  refine r' x ds S1 σ H1 _ (h.step s1) (hb.mono x ds S1 _ _ (fun e S2 ⟨i, j, e1, e2, h1, q5⟩ u H2 s2 r2 => ?_) q)
  subst e1 e2
  cases (show v = _ from r1)
  cases (show u = _ from r2)
  exact ⟨i, j, rfl, by omega, q5 H2 _ (s1.trans s2) yields_rng⟩⟩
/-! ### for -/
def dLoop (G : TG2) (B : TS2) (x : XK2) (D : Ends2) : List Dt → Ds → Cells → Prop
  | [], ds, S => D.nx ds S
  | d :: r, ds, S => G d ds S fun ds1 S1 => B x ⟨dLoop G B x D r, D.rt, D.nx, dLoop G B x D r⟩ ds1 S1
def dFor (I : TI2) (G : TG2) (B : TS2) : TS2 := fun x D ds S => I x ds S fun items S1 => dLoop G B x D items ds S1
theorem dLoop.mono {G : TG2} {B : TS2} (gm : ∀ d ds S Q Q', (∀ d S', Q d S' → Q' d S') → G d ds S Q → G d ds S Q') (bm : ∀ x ds S D D', Ends2.Le D D' → B x D ds S → B x D' ds S) {x : XK2} {D D' : Ends2} (h : D.Le D') :
    ∀ items ds S, dLoop G B x D items ds S → dLoop G B x D' items ds S
  | [], ds, S, q => h.nx _ _ q
  | d :: r, ds, S, q => gm _ _ _ _ _ (fun ds1 S1 q1 => bm _ _ _ ⟨dLoop G B x D r, D.rt, D.nx, dLoop G B x D r⟩ _ ⟨fun ds2 S2 q2 => dLoop.mono gm bm h r ds2 S2 q2, h.rt, h.nx, fun ds2 S2 q2 => dLoop.mono gm bm h r ds2 S2 q2⟩ q1) q
theorem s_for {tg iter : Expr} {I : TI2} {G : TG2} (hp : PassesOwn (model X.prog X.w) X.A X.env X.xe) (hc : X.calm = true) (hi : J2 X W tg iter I) (hg : G2 X W tg G) (hb : B2 X W body T) (hs : ∀ x, foldedSetIterable iter X.env x = pure x := by intro _; rfl) :
    S2 X W (.For tg iter body [] pos) (dFor I G T) := ⟨fun x ds S D D' h q => hi.mono x ds S _ _ (fun items S1 q => dLoop.mono hg.mono hb.mono h items ds S1 q) q, by
  obtain ⟨wi, pi, ri⟩ := hi.run
  obtain ⟨g, pg, rg⟩ := hg.run
  obtain ⟨t, pb, rb⟩ := hb.run
  refine ⟨_, ps_for hp hc pi pg pb hs, fun x ds S σ H D h q => ?_⟩
  refine ri x ds S σ H _ h (hi.mono x ds S _ _ (fun items S1 q H1 J s1 y => ?_) q)
  refine ⟨fun i m σ' H' => ∃ ds' S', Step X.K S1 H1 S' H' ∧ Here X.K W x ds' S' σ' H' ∧ m = items.length - i ∧ i ≤ items.length ∧ dLoop G T x (upD X.K S H D) (items.drop i) ds' S', ⟨items.length, ds, S1, ⟨Same.refl _, s1.wd⟩, h.step s1, rfl, Nat.zero_le _, q⟩, fun i m σ' H' ⟨ds', S', s', h', em, hi, q'⟩ => ?_⟩
  obtain ⟨y1, y2, y3⟩ := y S' H' s'
  by_cases hlt : i < items.length
  · refine .inr ⟨y1 i hlt, fun σ2 H2 => ∃ ds2 S2, Step X.K S1 H1 S2 H2 ∧ Here X.K W x ds2 S2 σ2 H2 ∧ dLoop G T x (upD X.K S H D) (items.drop (i + 1)) ds2 S2, fun σ2 H2 ⟨ds2, S2, s2, h2, q2⟩ => ⟨items.length - (i + 1), by omega, ds2, S2, s2, h2, rfl, hlt, q2⟩, fun v H2 hy => ?_⟩
    obtain ⟨s2, r2⟩ := y3 i v H2 _ hy (List.getElem?_eq_getElem hlt)
    rw [List.drop_eq_getElem_cons hlt] at q'
    have h2 := h'.step s2
    refine rg _ v x ds' S' σ' H2 _ h2 r2 (hg.mono _ _ _ _ _ (fun ds3 S3 q3 σ3 H3 s3 rs3 => ?_) q')
    have s23 := s2.trans s3
    have h3 : Here X.K W x ds3 S3 σ3 H3 := ⟨rs3, s3.wd, (h2.step s3).xe⟩
    refine rb x ds3 S3 σ3 H3 _ h3 (hb.mono _ _ _ _ _ ⟨fun ds4 S4 q4 σ4 H4 s4 rs4 => ?_, fun d S4 q4 => ?_, fun ds4 S4 q4 => ?_, fun ds4 S4 q4 σ4 H4 s4 rs4 => ?_⟩ q3)
    · exact ⟨ds4, S4, (s'.trans s23).trans s4, ⟨rs4, s4.wd, (h3.step s4).xe⟩, q4⟩
    · exact q4.step (s1.trans (s'.trans s23))
    · exact q4.step (s1.trans (s'.trans s23))
    · exact ⟨ds4, S4, (s'.trans s23).trans s4, ⟨rs4, s4.wd, (h3.step s4).xe⟩, q4⟩
  · have e : i = items.length := by omega
    subst e
    rw [List.drop_length] at q'
    exact .inl ⟨y2 _ (Nat.le_refl _), q' σ' H' (s1.trans s') h'.rs⟩⟩
/-! ### while -/
def dWhN (T : TT2) (B : TS2) (x : XK2) (D : Ends2) : Nat → Ds → Cells → Prop
  | 0, _, _ => False
  | n + 1, ds, S => T x ds S fun k S1 => if k = true then B x ⟨dWhN T B x D n, D.rt, D.nx, dWhN T B x D n⟩ ds S1 else D.nx ds S1
def dWhile (T : TT2) (B : TS2) : TS2 := fun x D ds S => ∃ n, dWhN T B x D n ds S
theorem dWhN.mono {T : TT2} {B : TS2} (tm : ∀ x ds S Q Q', (∀ d S', Q d S' → Q' d S') → T x ds S Q → T x ds S Q') (bm : ∀ x ds S D D', Ends2.Le D D' → B x D ds S → B x D' ds S) {x : XK2} {D D' : Ends2} (h : D.Le D') :
    ∀ n ds S, dWhN T B x D n ds S → dWhN T B x D' n ds S
  | 0, ds, S, q => q
  | n + 1, ds, S, q => tm _ _ _ _ _ (fun k S1 q1 => ite_mono q1 (fun q1 => bm _ _ _ ⟨dWhN T B x D n, D.rt, D.nx, dWhN T B x D n⟩ _ ⟨fun ds2 S2 q2 => dWhN.mono tm bm h n ds2 S2 q2, h.rt, h.nx, fun ds2 S2 q2 => dWhN.mono tm bm h n ds2 S2 q2⟩ q1) (fun q1 => h.nx _ _ q1)) q
theorem s_while (hp : PassesOwn (model X.prog X.w) X.A X.env X.xe) (hc : T2 X W c Tt) (hb : B2 X W body T) : S2 X W (.While c body [] pos) (dWhile Tt T) := ⟨fun x ds S D D' h ⟨n, q⟩ => ⟨n, dWhN.mono hc.mono hb.mono h n ds S q⟩, by
  obtain ⟨tc, pc, rc⟩ := hc.run
  obtain ⟨t, pb, rb⟩ := hb.run
  refine ⟨_, ps_while hp pc pb, fun x ds S σ H D h ⟨n, q⟩ => ?_⟩
  refine ⟨fun m σ' H' => ∃ ds' S', Step X.K S H S' H' ∧ Here X.K W x ds' S' σ' H' ∧ dWhN Tt T x (upD X.K S H D) m ds' S', ⟨n, ds, S, h.refl, h, q⟩, fun m σ' H' ⟨ds', S', s', h', q'⟩ => ?_⟩
  cases m with
  | zero => exact q'.elim
  | succ m =>
    refine rc x ds' S' σ' H' _ h' (hc.mono x ds' S' _ _ (fun k S2 q2 H2 s2 => ?_) q')
    have h2 := h'.step s2
    refine ite_mono q2 (fun q2 => ?_) (fun q2 => q2 σ' H2 (s'.trans s2) h2.rs)
    refine ⟨fun σ4 H4 => ∃ ds4 S4, Step X.K S H S4 H4 ∧ Here X.K W x ds4 S4 σ4 H4 ∧ dWhN Tt T x (upD X.K S H D) m ds4 S4, fun σ4 H4 w => ⟨m, Nat.lt_succ_self m, w⟩, ?_⟩
    refine rb x ds' S2 σ' H2 _ h2 (hb.mono _ _ _ _ _ ⟨fun ds4 S4 q4 σ4 H4 s4 rs4 => ?_, fun d S4 q4 => ?_, fun ds4 S4 q4 => ?_, fun ds4 S4 q4 σ4 H4 s4 rs4 => ?_⟩ q2)
    · exact ⟨ds4, S4, (s'.trans s2).trans s4, ⟨rs4, s4.wd, (h2.step s4).xe⟩, q4⟩
    · exact q4.step (s'.trans s2)
    · exact q4.step (s'.trans s2)
    · exact ⟨ds4, S4, (s'.trans s2).trans s4, ⟨rs4, s4.wd, (h2.step s4).xe⟩, q4⟩⟩
/-! ### raise X('..') -/
structure ExcOk (K : PySem.W.Frag) (mg : Str → Option Value) (x : Str) (C : Addr) : Prop where
  g : mg x = some (.ref C)
  q : PySem.W.excIn K C He.veBase "ValueError.__new__" = true
  k : PySem.W.keepIn K (.ref C) = true
  b : PySem.W.subIn K (.ref C) (.type "BaseException") = some true
  t : PySem.W.typeIn K (.ref C) = some (.type "type")
def dRaise (C : Addr) : TS2 := fun x _ ds S => x C ds S
theorem s_raise {x m : Str} {C : Addr} {j : Nat} {p p2 pos2 : Pos} (hc : X.calm = true) (tk : Takes X W) (E : ExcOk X.K X.mg x C) (hg : Gl X x := by rfl) (hdb : (x == ("__debug__" : Str)) = false := by decide) :
    S2 X W (.Raise (some (.Call (.Name x p) [.Constant (.str m) j p2] [] pos)) none pos2) (dRaise C) := ⟨fun x ds S D D' h q => q, _, ps_raise hc tk (pmk_own PySem.F.excBase_ValueError E.q E.g E.k (raises_own E.b E.t) hg hdb), fun x ds S σ H D h q => h.xe C ds S q σ H h.refl h.rs⟩
end
end Sc

namespace Sc
open PySem PySem.Spec PyProof.Rows L2
/-! ### readings by their data -/
def cE (K : PySem.W.Frag) (W : WX) (T : TE2) : TE := fun σ H Q => ∃ x ds S, Here K W x ds S σ H ∧ T x ds S (up K S H Q)
def cT (K : PySem.W.Frag) (W : WX) (T : TT2) : TT := fun σ H Q => ∃ x ds S, Here K W x ds S σ H ∧ T x ds S (upB K S H Q)
section
variable {X : Cx} {W : WX} {a b c e elt : Expr} {es : List Expr} {Ta Tb Tc Te : TE2} {Tt Tu : TT2} {TA : TA2} {pos : Pos} {st : Stmt} {rest body : List Stmt} {T U : TS2}
theorem E2.canon (h : E2 X W e Te) : PE X e (cE X.K W Te) := by
  obtain ⟨t, p, r⟩ := h.run
  exact ⟨fun pins s σ H Q I ⟨x, ds, S, hh, q⟩ => p.run pins s σ H Q I (r x ds S σ H Q hh q)⟩
theorem T2.canon (h : T2 X W e Tt) : PT X e (cT X.K W Tt) := by
  obtain ⟨t, p, r⟩ := h.run
  exact ⟨fun pins s σ H Q I ⟨x, ds, S, hh, q⟩ => p.run pins s σ H Q I (r x ds S σ H Q hh q)⟩
abbrev W0 : WX := fun _ _ _ _ => False
abbrev x0 : XK2 := fun _ _ _ => False
/-- the ifs of a comprehension -/
structure F2 (X : Cx) (ifs : List Expr) (T : TT2) : Prop where
  mono : ∀ x ds S Q Q', (∀ d S', Q d S' → Q' d S') → T x ds S Q → T x ds S Q'
  run : PTs X ifs (cT X.K W0 T)
def dYes : TT2 := fun _ _ S Q => Q true S
theorem f_nil : F2 X [] dYes := ⟨fun _ _ _ _ _ h q => h _ _ q, ⟨fun pins s σ H Q I ⟨x, ds, S, hh, q⟩ => pts_nil.run pins s σ H Q I (q H hh.refl)⟩⟩
theorem f_one (h : T2 X W0 c Tt) : F2 X [c] Tt := ⟨h.mono, ⟨fun pins s σ H Q I q => (pts_one h.canon).run pins s σ H Q I q⟩⟩
def dComp (G : TG2) (Tt : TT2) (Te : TE2) (p : Addr) (ds : Ds) (Q : QE) : List Dt → List Dt → Cells → Prop
  | [], acc, S => S p = some (.lst acc) ∧ (Q (.lst acc) (S.del p) ∨ Q (.ref p) S)
  | d :: r, acc, S => G d ds S fun ds2 S2 => Tt x0 ds2 S2 fun k S3 => if k = true then Te x0 ds2 S3 fun y S4 => S4 p = some (.lst acc) ∧ acc.length < 100000 ∧ dComp G Tt Te p ds Q r (acc ++ [y]) (S4.put p (.lst (acc ++ [y]))) else dComp G Tt Te p ds Q r acc S3
theorem dComp.mono {G : TG2} (gm : ∀ d ds S Q Q', (∀ d S', Q d S' → Q' d S') → G d ds S Q → G d ds S Q') (tm : ∀ x ds S Q Q', (∀ d S', Q d S' → Q' d S') → Tt x ds S Q → Tt x ds S Q') (em : ∀ x ds S Q Q', (∀ d S', Q d S' → Q' d S') → Te x ds S Q → Te x ds S Q')
    {p : Addr} {ds : Ds} {Q Q' : QE} (h : ∀ d S', Q d S' → Q' d S') : ∀ items acc S, dComp G Tt Te p ds Q items acc S → dComp G Tt Te p ds Q' items acc S
  | [], acc, S, ⟨e, q⟩ => ⟨e, q.imp (h _ _) (h _ _)⟩
  | d :: r, acc, S, q => gm _ _ _ _ _ (fun ds2 S2 q2 => tm _ _ _ _ _ (fun k S3 q3 => ite_mono q3 (fun q3 => em _ _ _ _ _ (fun y S4 q4 => ⟨q4.1, q4.2.1, dComp.mono gm tm em h r _ _ q4.2.2⟩) q3) (fun q3 => dComp.mono gm tm em h r _ _ q3)) q2) q
def dLc (I : TI2) (G : TG2) (Tt : TT2) (Te : TE2) : TE2 := fun x ds S Q => I x ds S fun items S1 => ∀ p, S1 p = none → dComp G Tt Te p ds Q items [] (S1.put p (.lst []))
/-- the target of a comprehension: its own slots alone are stored -/
structure CG2 (K : PySem.W.Frag) (vs : List Nat) (g : TG) (G : TG2) : Prop where
  mono : ∀ d ds S Q Q', (∀ d S', Q d S' → Q' d S') → G d ds S Q → G d ds S Q'
  run : ∀ d v W x ds S σ H Q, Here K W x ds S σ H → Rp K (wo S H) d v → G d ds S (upS K S H Q) → g v (wipe σ vs) H fun σ2 H2 => wipe σ2 vs = wipe σ vs ∧ Q σ2 H2
theorem cg_name {K : PySem.W.Frag} (i : Nat) : CG2 K [i] (gName i) (kName i) := ⟨fun d ds S Q Q' h q => h _ _ q, fun d v W x ds S σ H Q h r q => by
  have e : ((wipe σ [i]).set i (some v)) = σ.set i (some v) := by
    show ((σ.set i none).set i (some v)) = _
    rw [List.set_set]
  show wipe ((wipe σ [i]).set i (some v)) [i] = wipe σ [i] ∧ Q ((wipe σ [i]).set i (some v)) H
  rw [e]
  refine ⟨?_, q _ H h.refl (h.rs.set r)⟩
  show (σ.set i (some v)).set i none = σ.set i none
  rw [List.set_set]⟩
theorem cg_pair {K : PySem.W.Frag} (i j : Nat) (hij : i ≠ j) : CG2 K [i, j] (gTup K 2 (gCons (gName i) (gCons (gName j) gNil))) (kTup 2 (kCons (kName i) (kCons (kName j) kNil))) := ⟨fun d ds S Q Q' h ⟨es, e, l, d1, r1, e1, d2, r2, e2, e3, q⟩ => ⟨es, e, l, d1, r1, e1, d2, r2, e2, e3, h _ _ q⟩,
    fun d v W x ds S σ H Q h r ⟨es, e, l, d1, r1, e1, d2, r2, e2, e3, q⟩ => by
  subst e1 e2 e3
  obtain ⟨a, xs, k1, k2, k3⟩ := asT_ok r e
  obtain ⟨u1, u2, k4, k5, k6⟩ := rps2 k3
  subst k4
  refine ⟨a, _, k1, k2, rfl, u1, _, rfl, u2, _, rfl, rfl, ?_⟩
  have e4 : (((wipe σ [i, j]).set i (some u1)).set j (some u2)) = (σ.set i (some u1)).set j (some u2) := by
    show ((((σ.set j none).set i none).set i (some u1)).set j (some u2)) = _
    rw [List.set_set, List.set_comm _ _ (Ne.symm hij), List.set_set]
  show wipe (((wipe σ [i, j]).set i (some u1)).set j (some u2)) [i, j] = wipe σ [i, j] ∧ Q (((wipe σ [i, j]).set i (some u1)).set j (some u2)) H
  rw [e4]
  refine ⟨?_, q _ H h.refl ((h.rs.set k5).set k6)⟩
  show ((((σ.set i (some u1)).set j (some u2)).set j none).set i none) = (σ.set j none).set i none
  rw [List.set_set, List.set_comm _ _ hij, List.set_set, List.set_comm _ _ (Ne.symm hij)]⟩
theorem lc_lift {I : TI2} {g : TG} {G : TG2} {vs : List Nat} {wi : TI} (hG : CG2 X.K vs g G) (tm : ∀ x ds S Q Q', (∀ d S', Q d S' → Q' d S') → Tt x ds S Q → Tt x ds S Q') (em : ∀ x ds S Q Q', (∀ d S', Q d S' → Q' d S') → Te x ds S Q → Te x ds S Q')
    (im : ∀ x ds S Q Q', (∀ d S', Q d S' → Q' d S') → I x ds S Q → I x ds S Q') (ri : ∀ x ds S σ H R, Here X.K W x ds S σ H → I x ds S (fun items S1 => ∀ H1 J, Step X.K S H S1 H1 → Yields X.K J items S1 H1 → R J H1) → wi σ H R) :
    ∀ x ds S σ H Q, Here X.K W x ds S σ H → dLc I G Tt Te x ds S (up X.K S H Q) → tLc wi g (cT X.K W0 Tt) (cE X.K W0 Te) vs σ H Q := fun x ds S σ H Q h q => by
  refine ri x ds S σ H _ h (im x ds S _ _ (fun items S1 q H1 J s1 y => ?_) q)
  intro D hD
  have hwo := put_wo (S := S1) (H := H1) (p := D) (o := .lst []) (.lst []) (.inr hD)
  have sD : Step X.K S1 H1 (S1.put D (.lst [])) (upd H1 D (.lst [])) := ⟨by rw [hwo]; exact Same.refl _, put_wd s1.wd (.inr hD) ⟨[], upd_same, rfl⟩⟩
  refine ⟨fun i m H' => ∃ S' acc, Step X.K S1 H1 S' H' ∧ m = items.length - i ∧ i ≤ items.length ∧ dComp G Tt Te D ds (up X.K S H Q) (items.drop i) acc S', ⟨items.length, _, [], sD, rfl, Nat.zero_le _, q D (s1.wd.free hD)⟩, fun i m H' ⟨S', acc, s', em', hi, q'⟩ => ?_⟩
  obtain ⟨y1, y2, y3⟩ := y S' H' s'
  by_cases hlt : i < items.length
  · refine .inr ⟨y1 i hlt, fun H2 => ∃ S2 acc, Step X.K S1 H1 S2 H2 ∧ dComp G Tt Te D ds (up X.K S H Q) (items.drop (i + 1)) acc S2, fun H2 ⟨S2, acc2, s2, q2⟩ => ⟨items.length - (i + 1), by omega, S2, acc2, s2, rfl, hlt, q2⟩, fun v H2 hy => ?_⟩
    obtain ⟨s2, r2⟩ := y3 i v H2 _ hy (List.getElem?_eq_getElem hlt)
    rw [List.drop_eq_getElem_cons hlt] at q'
    have h2 : Here X.K W0 x0 ds S' σ H2 := ⟨h.rs.mono (s1.trans (s'.trans s2)).same, s2.wd, fun _ _ _ z => z.elim⟩
    refine hG.run _ v W0 x0 ds S' σ H2 _ h2 r2 (hG.mono _ _ _ _ _ (fun ds3 S3 q3 σ3 H3 s3 rs3 => ?_) q')
    have h3 : Here X.K W0 x0 ds3 S3 σ3 H3 := ⟨rs3, s3.wd, fun _ _ _ z => z.elim⟩
    refine ⟨x0, ds3, S3, h3, tm _ _ _ _ _ (fun k S4 q4 H4 s4 => ?_) q3⟩
    have s14 := (s'.trans s2).trans (s3.trans s4)
    refine ite_mono q4 (fun q4 => ?_) (fun q4 => ⟨S4, acc, s14, q4⟩)
    refine ⟨x0, ds3, S4, h3.step s4, em _ _ _ _ _ (fun y S5 ⟨e5, l5, q5⟩ u H5 s5 r5 => ?_) q4⟩
    obtain ⟨accV, k1, k2⟩ := s5.wd D _ e5
    have hS : S5 D ≠ none ∨ H5 D = none := .inl (by rw [e5]; intro z; cases z)
    refine ⟨accV, k1, by rw [k2.length]; exact Nat.lt_of_lt_of_le l5 (by decide), S5.put D (.lst (acc ++ [y])), acc ++ [y], (s14.trans s5).trans ⟨?_, put_wd s5.wd hS ⟨_, upd_same, k2.app (Rps.one r5)⟩⟩, q5⟩
    rw [put_wo _ hS]
    exact Same.refl _
  · have e : i = items.length := by omega
    subst e
    rw [List.drop_length] at q'
    refine .inl ⟨y2 _ (Nat.le_refl _), ?_⟩
    obtain ⟨e5, q5⟩ := q'
    rcases q5 with q5 | q5
    · exact q5 _ _ ((s1.trans s').trans ⟨froz_same, froz_wd s'.wd⟩) (froz_at s'.wd e5)
    · exact q5 _ _ (s1.trans s') rfl
theorem e_lc {I : TI2} {g : TG} {G : TG2} {tg iter : Expr} {ifs : List Expr} {scope : Scope} {own : List (Str × Nat)} (hc : X.calm = true) (hN : X.N.Nodup) (hi : J2 X W tg iter I) (ok : BlkOk X.N X.env.scope scope own) (hG : CG2 X.K (own.map (·.2)) g G)
    (hg : ∀ (s : Shared) (H : Hp) (C : Addr) (cl : List (Str × Addr)) (fp : List Addr), PG (X.blk s H scope (compEnvC scope cl C X.env) fp) tg g) (ht : ∀ (s : Shared) (H : Hp) (C : Addr) (cl : List (Str × Addr)) (fp : List Addr), F2 (X.blk s H scope (compEnvC scope cl C X.env) fp) ifs Tt)
    (he : ∀ (s : Shared) (H : Hp) (C : Addr) (cl : List (Str × Addr)) (fp : List Addr), E2 (X.blk s H scope (compEnvC scope cl C X.env) fp) W0 elt Te) (hs : ∀ x, foldedSetIterable iter X.env x = pure x := by intro _; rfl) :
    E2 X W (.ListComp elt [⟨tg, iter, ifs, 0⟩] scope pos) (dLc I G Tt Te) := ⟨fun x ds S Q Q' h q => hi.mono _ _ _ _ _ (fun items S1 q p hp => dComp.mono hG.mono (ht X.s_0 X.H_0 0 [] []).mono (he X.s_0 X.H_0 0 [] []).mono h items [] _ (q p hp)) q, by
  obtain ⟨wi, pi, ri⟩ := hi.run
  exact ⟨_, pe_lc hc hN pi ok hg (fun s H C cl fp => (ht s H C cl fp).run) (fun s H C cl fp => (he s H C cl fp).canon) hs, lc_lift hG (ht X.s_0 X.H_0 0 [] []).mono (he X.s_0 X.H_0 0 [] []).mono hi.mono ri⟩⟩
/-- y = [..] on one line, y a local -/
theorem s_setLc (i : Nat) {y : Str} {py : Pos} {I : TI2} {g : TG} {G : TG2} {tg iter : Expr} {ifs : List Expr} {scope : Scope} {own : List (Str × Nat)} {spos : Pos} (hc : X.calm = true) (hN : X.N.Nodup) (hy : X.N[i]? = some y) (hyl : X.env.scope.names.lookup y = some .local)
    (hsw : swapsWith (.ListComp elt [⟨tg, iter, ifs, 0⟩] scope pos) (some (.Name y py)) spos.line X.env = pure true) (hi : J2 X W tg iter I) (ok : BlkOk X.N X.env.scope scope own) (hG : CG2 X.K (own.map (·.2)) g G)
    (hg : ∀ (s : Shared) (H : Hp) (C : Addr) (cl : List (Str × Addr)) (fp : List Addr), PG (X.blk s H scope (compEnvC scope cl C X.env) fp) tg g) (ht : ∀ (s : Shared) (H : Hp) (C : Addr) (cl : List (Str × Addr)) (fp : List Addr), F2 (X.blk s H scope (compEnvC scope cl C X.env) fp) ifs Tt)
    (he : ∀ (s : Shared) (H : Hp) (C : Addr) (cl : List (Str × Addr)) (fp : List Addr), E2 (X.blk s H scope (compEnvC scope cl C X.env) fp) W0 elt Te) (hs : ∀ x, foldedSetIterable iter X.env x = pure x := by intro _; rfl) :
    S2 X W (.Assign [.Name y py] (.ListComp elt [⟨tg, iter, ifs, 0⟩] scope pos) spos) (dSet i (dLc I G Tt Te)) := ⟨fun x ds S D D' h q => hi.mono _ _ _ _ _ (fun items S1 q p hp => dComp.mono hG.mono (ht X.s_0 X.H_0 0 [] []).mono (he X.s_0 X.H_0 0 [] []).mono (fun d S' q => h.nx _ _ q) items [] _ (q p hp)) q, by
  obtain ⟨wi, pi, ri⟩ := hi.run
  refine ⟨tAsg (tLc wi g (cT X.K W0 Tt) (cE X.K W0 Te) (own.map (·.2))) (gName i), ps_setLc hc hN hy hyl hsw pi ok hg (fun s H C cl fp => (ht s H C cl fp).run) (fun s H C cl fp => (he s H C cl fp).canon) hs, fun x ds S σ H D h q => ?_⟩
  refine lc_lift hG (ht X.s_0 X.H_0 0 [] []).mono (he X.s_0 X.H_0 0 [] []).mono hi.mono ri x ds S σ H _ h (hi.mono _ _ _ _ _ (fun items S1 q p hp => dComp.mono hG.mono (ht X.s_0 X.H_0 0 [] []).mono (he X.s_0 X.H_0 0 [] []).mono (fun d S' q v H' s' r' => ?_) items [] _ (q p hp)) q)
  exact q _ H' s' ((h.rs.mono s'.same).set r')⟩
end

/-! ### a def by its body -/
def start2 (n : Nat) (ds : List Dt) : Ds := ds.map some ++ List.replicate (n - ds.length) none
abbrev D0 (Q : QE) : Ends2 := { nx := fun _ S' => Q .non S', rt := Q }
abbrev X0 (E : Addr → Cells → Prop) : XK2 := fun C _ S' => E C S'
theorem start2_rs {K : PySem.W.Frag} {I : Hp} {N : List Str} {ds : List Dt} {vs : List V} (h : Rps K I ds vs) : Rs K I (start2 N.length ds) (L2.start N vs) := by
  have hl := h.length
  refine ⟨by unfold start2 L2.start; simp [hl], fun i d e => ?_⟩
  unfold start2 at e
  by_cases hi : i < ds.length
  · rw [List.getElem?_append_left (by simpa using hi), List.getElem?_map] at e
    cases q : ds[i]? with
    | none => rw [q] at e; cases e
    | some d' =>
      rw [q] at e
      cases (show some (some d') = some (some d) from e)
      obtain ⟨v, h1, h2⟩ := h.get q
      refine ⟨v, ?_, h2⟩
      unfold L2.start
      rw [List.getElem?_append_left (by rw [List.length_map, hl]; exact hi), List.getElem?_map, h1]
      rfl
  · rw [List.getElem?_append_right (by simp; omega)] at e
    rw [List.getElem?_replicate] at e
    split at e <;> cases e
/-- what is wanted may forget a new cell -/
def Fg (Q : QE) : Prop := ∀ d S p c, S p = none → Q d S → Q d (S.put p c)
/-- a list that nobody will change may be read as data -/
structure Frg (Q : QE) : Prop where
  fg : Fg Q
  fz : ∀ S p l, S p = none → Q (.lst l) S → Q (.ref p) (S.put p (.lst l))
/-- the reading T of a def's body (n slots) keeps the promise -/
def Pure (n : Nat) (sp : Sp2) (T : TS2) : Prop := ∀ ds S Q E, Frg Q → sp ds S Q E → T (X0 E) (D0 Q) (start2 n ds) S
theorem up_frg {K : PySem.W.Frag} {S : Cells} {H : Hp} {Q : VK} {d : Dt} {S' : Cells} {p : Addr} {c : Cell} (hp : S' p = none) (q : up K S H Q d S') : up K S H Q d (S'.put p c) := fun v H' s r => by
  have e : (S'.put p c).del p = S' := by
    funext a
    unfold Cells.del Cells.put
    by_cases h : a = p
    · rw [if_pos h, h, hp]
    · rw [if_neg h, if_neg h]
  have f := froz_same (S := S'.put p c) (H := H') (p := p)
  have g := froz_wd (p := p) s.wd
  rw [e] at f g
  exact q v H' ⟨s.same.trans f, g⟩ (r.mono f)
theorem up_frz {K : PySem.W.Frag} {S : Cells} {H : Hp} {Q : VK} {l : List Dt} {S' : Cells} {p : Addr} (hp : S' p = none) (q : up K S H Q (.lst l) S') : up K S H Q (.ref p) (S'.put p (.lst l)) := fun v H' s r => by
  have k := froz_at (p := p) s.wd Cells.put_same
  have e : (S'.put p (.lst l)).del p = S' := by
    funext a
    unfold Cells.del Cells.put
    by_cases h : a = p
    · rw [if_pos h, h, hp]
    · rw [if_neg h, if_neg h]
  have f := froz_same (S := S'.put p (.lst l)) (H := H') (p := p)
  have g := froz_wd (p := p) s.wd
  rw [e] at f g k
  cases (show v = _ from r)
  exact q _ H' ⟨s.same.trans f, g⟩ k
section
variable {P : Program} {w : World} {K : PySem.W.Frag} {mg : Str → Option Value} {base : Heap}
theorem fnok_mk {x : Str} {f : Addr} {fd : FuncData} {params : Arguments} {bd : List Stmt} {scope : Scope} {N ps : List Str} {k : Nat} {sp : Sp2} {T : TS2} (F : FunD K x x params bd scope [] [] f fd) (S : FnScope N ps scope)
    (len : ∀ ds S Q E, sp ds S Q E → ds.length = ps.length) (hp : Pure N.length sp T)
    (hb2 : ∀ (cdv : Value) (A : Around) (outer : List Env) (s : Shared) (H : Hp) (E : XK), Room k (A.deeper (envOfC x scope s.heap.objs.size f cdv)) → B2 (cxOf (L2.CX P w) P w K mg base N x scope f cdv A outer s H E) (fun cls d _ H => E cls d H) bd T) :
    FnOk P w K mg base (L2.CX P w) (k + 1) f fd ps (lift K sp) := by
  refine F.ok S (fun vs H Q E ⟨S1, ds, w1, r1, h⟩ => by rw [r1.length]; exact len _ _ _ _ h) (fun cdv A outer s H vs Q E hr ⟨S1, ds, w1, r1, h⟩ => ?_)
  have hT := hb2 cdv A outer s H E hr
  obtain ⟨t, p, r⟩ := hT.run
  refine ⟨t, p, r (fun C _ S' => ∀ H', Step K S1 H S' H' → E (.ref C) none H') (start2 N.length ds) S1 (L2.start N vs) H _ ⟨start2_rs r1, w1, fun C ds' S' q σ' H' s' _ => q H' s'⟩ ?_⟩
  refine hT.mono _ _ _ { nx := fun _ S' => up K S1 H Q .non S', rt := up K S1 H Q } _ ⟨fun ds' S' q σ' H' s' rs' => q _ H' s' rfl, fun d S' q => q, fun _ _ q => q.elim, fun _ _ q => q.elim⟩ (hp ds S1 (up K S1 H Q) _ ⟨fun d S' p c hp q => up_frg hp q, fun S' p l hp q => up_frz hp q⟩ h)
theorem Has.mk {x : Str} {f : Addr} {fd : FuncData} {params : Arguments} {bd : List Stmt} {scope : Scope} {N ps : List Str} {k : Nat} {sp : Sp2} {T : TS2} (F : FunD K x x params bd scope [] [] f fd) (S : FnScope N ps scope) (hm : mg x = some (.ref f)) (hb : Binds K fd ps [])
    (mono : sp.Mono) (len : ∀ ds S Q E, sp ds S Q E → ds.length = ps.length) (hp : Pure N.length sp T)
    (hb2 : ∀ (cdv : Value) (A : Around) (outer : List Env) (s : Shared) (H : Hp) (E : XK), Room k (A.deeper (envOfC x scope s.heap.objs.size f cdv)) → B2 (cxOf (L2.CX P w) P w K mg base N x scope f cdv A outer s H E) (fun cls d _ H => E cls d H) bd T) :
    Has P w K mg base (k + 1) x ps sp := ⟨mono, f, fd, hm, F.kp, hb, fnok_mk F S len hp hb2⟩
end
end Sc

namespace Sc
open PySem PySem.Spec PyProof.Rows L2
/-! ### == of data -/
mutual
def py : Dt → PyData
  | .non => .none
  | .bl b => .bool b
  | .int i => .int i
  | .str x => .str x
  | .tup ds => .tuple (pys ds)
  | .lst ds => .list (pys ds)
  | .ref _ => .none
def pys : List Dt → List PyData
  | [] => []
  | d :: ds => py d :: pys ds
end
/-- data without truth values, of a small depth -/
inductive Ok0 : Nat → Dt → Prop
  | non (n : Nat) : Ok0 n .non
  | int (n : Nat) (i : Int) : Ok0 n (.int i)
  | str (n : Nat) (x : Str) (h : PyData.strOk x = true) : Ok0 n (.str x)
  | tup {n : Nat} {ds : List Dt} (h : ∀ d, d ∈ ds → Ok0 n d) : Ok0 (n + 1) (.tup ds)
  | lst {n : Nat} {ds : List Dt} (h : ∀ d, d ∈ ds → Ok0 n d) : Ok0 (n + 1) (.lst ds)
theorem pys_lay : ∀ (ds : List Dt), (∀ d, d ∈ ds → (py d).canLay0 = true) → PyData.canLayAll0 (pys ds) = true
  | [], _ => by rw [pys, PyData.canLayAll0]
  | d :: ds, h => by rw [pys, PyData.canLayAll0, h d List.mem_cons_self, pys_lay ds (fun e he => h e (List.mem_cons_of_mem _ he))]; rfl
theorem pys_depth {n : Nat} : ∀ (ds : List Dt), (∀ d, d ∈ ds → (py d).depth ≤ n) → PyData.depthAll (pys ds) ≤ n
  | [], _ => by rw [pys, PyData.depthAll]; exact Nat.zero_le _
  | d :: ds, h => by
    rw [pys, PyData.depthAll]
    exact Nat.max_le.mpr ⟨h d List.mem_cons_self, pys_depth ds (fun e he => h e (List.mem_cons_of_mem _ he))⟩
theorem Ok0.lay {n : Nat} {d : Dt} (h : Ok0 n d) : (py d).canLay0 = true := by
  induction h with
  | non => rw [py, PyData.canLay0]
  | int => rw [py, PyData.canLay0]
  | str n x h => rw [py, PyData.canLay0]; exact h
  | tup h ih => rw [py, PyData.canLay0]; exact pys_lay _ ih
  | lst h ih => rw [py, PyData.canLay0]; exact pys_lay _ ih
theorem Ok0.depth {n : Nat} {d : Dt} (h : Ok0 n d) : (py d).depth ≤ n := by
  induction h with
  | non => rw [py, PyData.depth]; exact Nat.zero_le _
  | int => rw [py, PyData.depth]; exact Nat.zero_le _
  | str n x h => rw [py, PyData.depth]; exact Nat.zero_le _
  | tup h ih => rw [py, PyData.depth]; exact Nat.succ_le_succ (pys_depth _ ih)
  | lst h ih => rw [py, PyData.depth]; exact Nat.succ_le_succ (pys_depth _ ih)
theorem Ok0.shaped {n : Nat} {d : Dt} (h : Ok0 n d) (hn : n ≤ 64) : SeqAt.shaped (py d) = true := by
  unfold SeqAt.shaped
  rw [h.lay, decide_eq_true (Nat.le_trans h.depth hn)]
  rfl
theorem eqvAll_iff {n : Nat} : ∀ (ds es : List Dt), (∀ d, d ∈ ds → ∀ m e, Ok0 m e → (PyData.eqv (py d) (py e) = true ↔ d = e)) → (∀ e, e ∈ es → Ok0 n e) → (PyData.eqvAll (pys ds) (pys es) = true ↔ ds = es)
  | [], [], _, _ => by simp [pys, PyData.eqvAll]
  | [], e :: es, _, _ => by simp [pys, PyData.eqvAll]
  | d :: ds, [], _, _ => by simp [pys, PyData.eqvAll]
  | d :: ds, e :: es, h, h' => by
    have h1 := h d List.mem_cons_self n e (h' e List.mem_cons_self)
    have h2 := eqvAll_iff ds es (fun a ha => h a (List.mem_cons_of_mem _ ha)) (fun a ha => h' a (List.mem_cons_of_mem _ ha))
    simp only [pys, PyData.eqvAll, Bool.and_eq_true, List.cons.injEq]
    rw [h1, h2]
theorem Ok0.eqv {n : Nat} {d : Dt} (h : Ok0 n d) : ∀ {m : Nat} {e : Dt}, Ok0 m e → (PyData.eqv (py d) (py e) = true ↔ d = e) := by
  induction h with
  | non => intro m e h'; cases h' <;> simp [py, PyData.eqv]
  | int => intro m e h'; cases h' <;> simp [py, PyData.eqv]
  | str => intro m e h'; cases h' <;> simp [py, PyData.eqv]
  | tup h ih =>
    intro m e h'
    cases h' with
    | tup k =>
      have z := eqvAll_iff _ _ (fun d hd m e he => ih d hd he) k
      simp only [py, PyData.eqv, Dt.tup.injEq]
      exact z
    | _ => simp [py, PyData.eqv]
  | lst h ih =>
    intro m e h'
    cases h' with
    | lst k =>
      have z := eqvAll_iff _ _ (fun d hd m e he => ih d hd he) k
      simp only [py, PyData.eqv, Dt.lst.injEq]
      exact z
    | _ => simp [py, PyData.eqv]
mutual
theorem Rp.dp {K : PySem.W.Frag} {I H : Hp} (s : Same I H) : ∀ {d : Dt} {v : V} {n : Nat}, Ok0 n d → Rp K I d v → Dp K H v (py d)
  | .non, v, _, _, h => by cases (show v = _ from h); rw [py]; exact .non
  | .bl _, v, _, o, h => by cases o
  | .int _, v, _, _, h => by cases (show v = _ from h); rw [py]; exact .int _
  | .str _, v, _, _, h => by cases (show v = _ from h); rw [py]; exact .str _
  | .ref _, v, _, o, h => by cases o
  | .tup ds, v, _, o, h => by
    obtain ⟨a, xs, e, h1, h2⟩ := h
    subst e
    rw [py]
    refine .tup (sqT_mono s h1) (Rps.dp s (ds := ds) (fun d hd => ?_) h2)
    cases o with
    | tup k => exact ⟨_, k d hd⟩
  | .lst ds, v, _, o, h => by
    obtain ⟨a, xs, e, h1, h2⟩ := h
    subst e
    rw [py]
    refine .lst (sqL_mono s h1) (Rps.dp s (ds := ds) (fun d hd => ?_) h2)
    cases o with
    | lst k => exact ⟨_, k d hd⟩
theorem Rps.dp {K : PySem.W.Frag} {I H : Hp} (s : Same I H) : ∀ {ds : List Dt} {vs : List V}, (∀ d, d ∈ ds → ∃ n, Ok0 n d) → Rps K I ds vs → DpAll K H vs (pys ds)
  | [], vs, _, h => by cases (show vs = [] from h); rw [pys]; exact .nil
  | d :: ds, vs, o, h => by
    obtain ⟨v, us, e, h1, h2⟩ := h
    subst e
    obtain ⟨n, hn⟩ := o d List.mem_cons_self
    rw [pys]
    exact .cons (Rp.dp s hn h1) (Rps.dp s (fun e he => o e (List.mem_cons_of_mem _ he)) h2)
end
/-- a list that may change, as it is -/
def rsv (S : Cells) : Dt → Dt
  | .ref a => match S a with
    | some (.lst ds) => .lst ds
    | _ => .ref a
  | d => d
theorem rsv_dp {K : PySem.W.Frag} {S : Cells} {H : Hp} {d : Dt} {v : V} {n : Nat} (w : Wd K S H) (o : Ok0 n (rsv S d)) (r : Rp K (wo S H) d v) : Dp K H v (py (rsv S d)) := by
  cases d with
  | ref a =>
    have er : rsv S (.ref a) = (match S a with | some (.lst ds) => .lst ds | _ => .ref a) := rfl
    rw [er] at o ⊢
    cases q : S a with
    | none => rw [q] at o; cases o
    | some c =>
      cases c with
      | ins C fs => rw [q] at o; cases o
      | lst ds =>
        rw [q] at o
        show Dp K H v (py (.lst ds))
        obtain ⟨xs, k1, k2⟩ := w a _ q
        cases (show v = _ from r)
        rw [py]
        refine .lst (SqL.of k1) (Rps.dp wo_le (fun d hd => ?_) k2)
        cases o with
        | lst k => exact ⟨_, k d hd⟩
  | _ => exact Rp.dp wo_le o r
def DEq (S : Cells) (d e : Dt) (b : Bool) : Prop := ∃ n m, n ≤ 64 ∧ m ≤ 64 ∧ Ok0 n (rsv S d) ∧ Ok0 m (rsv S e) ∧ (b = true ↔ rsv S d = rsv S e)
theorem DEq.mk {S : Cells} {d e : Dt} {n m : Nat} {p : Prop} [Decidable p] (h1 : Ok0 n (rsv S d)) (h2 : Ok0 m (rsv S e)) (h : p ↔ rsv S d = rsv S e) (hn : n ≤ 64 := by decide) (hm : m ≤ 64 := by decide) : DEq S d e (decide p) :=
  ⟨n, m, hn, hm, h1, h2, decide_eq_true_iff.trans h⟩
def qEqD : QO := fun d e S Q => ∃ b, DEq S d e b ∧ Q (.bl b) S
def qNeD : QO := fun d e S Q => ∃ b, DEq S d e b ∧ Q (.bl (!b)) S
theorem bool_iff {a b : Bool} {p : Prop} (h1 : a = true ↔ p) (h2 : b = true ↔ p) : a = b := by
  rw [Bool.eq_iff_iff, h1, h2]
section
variable {X : Cx}
theorem o_eqD (hu : X.A.units + 64 < cLine) : O2 X (compareOp .Eq) qEqD := ⟨fun d e S Q Q' hq ⟨b, h, q⟩ => ⟨b, h, hq _ _ q⟩, _, op_eqD hu, fun d e v u S H Q w r1 r2 ⟨b, ⟨n, m, hn, hm, o1, o2, hb⟩, q⟩ => by
  refine ⟨_, _, rsv_dp w o1 r1, rsv_dp w o2 r2, o1.shaped hn, o2.shaped hm, ?_⟩
  rw [bool_iff (o1.eqv o2) hb]
  exact q _ H ⟨Same.refl _, w⟩ rfl⟩
theorem o_neD (hu : X.A.units + 64 < cLine) : O2 X (compareOp .NotEq) qNeD := ⟨fun d e S Q Q' hq ⟨b, h, q⟩ => ⟨b, h, hq _ _ q⟩, _, op_neD hu, fun d e v u S H Q w r1 r2 ⟨b, ⟨n, m, hn, hm, o1, o2, hb⟩, q⟩ => by
  refine ⟨_, _, rsv_dp w o1 r1, rsv_dp w o2 r2, o1.shaped hn, o2.shaped hm, ?_⟩
  rw [bool_iff (o1.eqv o2) hb]
  exact q _ H ⟨Same.refl _, w⟩ rfl⟩
end
end Sc

/-! Slices, chains and what they keep: plain Lean. -/
namespace Sm
abbrev Sl := Option Int × Option Int × Int
abbrev Pg := Int × Int × Int
def okB (o : Option Int) : Prop := ∀ i, o = some i → -30 ≤ i ∧ i ≤ 30
def okS (s : Sl) : Prop := okB s.1 ∧ okB s.2.1 ∧ -3 ≤ s.2.2 ∧ s.2.2 ≤ 3 ∧ s.2.2 ≠ 0
def okC (c : List Sl) : Prop := c.length ≤ 4 ∧ ∀ s, s ∈ c → okS s
def moved (b c lo hi : Int) : Int := max lo (min hi (if b < 0 then b + c else b))
def begP (o : Option Int) (c : Int) : Int := match o with | none => 0 | some b => moved b c 0 c
def endP (o : Option Int) (c : Int) : Int := match o with | none => c | some b => moved b c 0 c
def begN (o : Option Int) (c : Int) : Int := match o with | none => c - 1 | some b => moved b c (-1) (c - 1)
def endN (o : Option Int) (c : Int) : Int := match o with | none => -1 | some b => moved b c (-1) (c - 1)
def endsOf (s : Sl) (c : Int) : Int × Int := if 0 < s.2.2 then (begP s.1 c, endP s.2.1 c) else (begN s.1 c, endN s.2.1 c)
def manyOf (s : Sl) (c : Int) : Int :=
  if 0 < s.2.2 then max 0 (((endsOf s c).2 - (endsOf s c).1 + s.2.2 - 1) / s.2.2)
  else max 0 (((endsOf s c).1 - (endsOf s c).2 - s.2.2 - 1) / (- s.2.2))
def applied (s : Sl) (p : Pg) : Pg := (p.1 + p.2.1 * (endsOf s p.2.2).1, p.2.1 * s.2.2, manyOf s p.2.2)
def shownF (c : List Sl) (p : Pg) : Pg := c.foldl (fun p s => applied s p) p
def shown (c : List Sl) (n : Int) : Pg := shownF c (0, 1, n)
def cleaned (p : Pg) : Option Int × Option Int × Int := (if p.2.2 > 0 then some p.1 else none, if p.2.2 > 1 then some p.2.1 else none, p.2.2)
def clean (c : List Sl) (n : Int) : Option Int × Option Int × Int := cleaned (shown c n)
def absB (o : Option Int) : Int := ((o.getD 0).natAbs : Int)
/-- (threshold so far, weight so far) -/
def wts (c : List Sl) (p : Int × Int) : Int × Int := c.foldl (fun p s => (p.1 + p.2 * (1 + absB s.1 + absB s.2.1), p.2 * (s.2.2.natAbs : Int))) p
def thr (c : List Sl) : Int := (wts c (0, 1)).1
def per (c : List Sl) : Int := (wts c (0, 1)).2
def lcmI (a b : Int) : Int := ((a.natAbs.lcm b.natAbs : Nat) : Int)
def lastT (c d : List Sl) : Int := max (thr c) (thr d)
def bothP (c d : List Sl) : Int := lcmI (per c) (per d)
def bnd (c d : List Sl) : Int := lastT c d + 3 * bothP c d
/-- the smallest n from a on, m of them, at which p holds -/
def search (p : Int → Bool) : Int → Nat → Option Int
  | _, 0 => none
  | a, m + 1 => if p a = true then some a else search p (a + 1) m
def unlike (c d : List Sl) (n : Int) : Bool := decide (clean c n ≠ clean d n)
def firstD (c d : List Sl) : Option Int := search (unlike c d) 0 (bnd c d).toNat
theorem moved_pos {b c : Int} (hc : 0 ≤ c) : moved b c 0 c = if b < 0 then max 0 (b + c) else min b c := by
  unfold moved
  split <;> omega
theorem moved_neg {b c : Int} (hc : 0 ≤ c) : moved b c (-1) (c - 1) = if b < 0 then max (-1) (b + c) else min b (c - 1) := by
  unfold moved
  split <;> omega
theorem ends_pos {a b : Option Int} {t c : Int} (h : 0 < t) : endsOf (a, b, t) c = (begP a c, endP b c) := if_pos h
theorem ends_neg {a b : Option Int} {t c : Int} (h : ¬ 0 < t) : endsOf (a, b, t) c = (begN a c, endN b c) := if_neg h
theorem many_pos {a b : Option Int} {t c : Int} (h : 0 < t) : manyOf (a, b, t) c = max 0 ((endP b c - begP a c + t - 1) / t) := by
  unfold manyOf
  rw [if_pos h, ends_pos h]
theorem many_neg {a b : Option Int} {t c : Int} (h : ¬ 0 < t) : manyOf (a, b, t) c = max 0 ((begN a c - endN b c - t - 1) / (-t)) := by
  unfold manyOf
  rw [if_neg h, ends_neg h]
theorem div_max {x t : Int} (ht : 0 < t) : (max 0 x + t - 1) / t = max 0 ((x + t - 1) / t) := by
  by_cases h : 0 ≤ x
  · have e : max 0 x = x := by omega
    rw [e]
    have : 0 ≤ (x + t - 1) / t := Int.ediv_nonneg (by omega) (by omega)
    omega
  · have e : max 0 x = 0 := by omega
    rw [e]
    have h1 : (0 + t - 1) / t = 0 := Int.ediv_eq_zero_of_lt (by omega) (by omega)
    have h2 : (x + t - 1) / t < 1 := Int.ediv_lt_of_lt_mul ht (by omega)
    omega
theorem many_nn (s : Sl) (c : Int) : 0 ≤ manyOf s c := by
  unfold manyOf
  split <;> omega
theorem absB_nn (o : Option Int) : 0 ≤ absB o := Int.natCast_nonneg _
theorem absB_le {o : Option Int} (h : okB o) : absB o ≤ 30 := by
  cases o with
  | none => decide
  | some i =>
    have := h i rfl
    show ((i.natAbs : Nat) : Int) ≤ 30
    omega
theorem wts_bound : ∀ (c : List Sl) (p : Int × Int) (t w : Int), (∀ s, s ∈ c → okS s) → 0 ≤ p.1 → p.1 ≤ t → 0 < p.2 → p.2 ≤ w →
    0 ≤ (wts c p).1 ∧ 0 < (wts c p).2 ∧ (wts c p).2 ≤ w * 3 ^ c.length
  | [], p, t, w, _, h1, h2, h3, h4 => ⟨h1, h3, by simpa [wts] using h4⟩
  | s :: c, p, t, w, h, h1, h2, h3, h4 => by
    have hs := h s List.mem_cons_self
    have a1 := absB_nn s.1
    have a2 := absB_nn s.2.1
    have n1 : 1 ≤ (s.2.2.natAbs : Int) ∧ (s.2.2.natAbs : Int) ≤ 3 := by
      obtain ⟨_, _, x, y, z⟩ := hs
      omega
    have e : wts (s :: c) p = wts c (p.1 + p.2 * (1 + absB s.1 + absB s.2.1), p.2 * (s.2.2.natAbs : Int)) := rfl
    rw [e]
    have k1 : 0 ≤ p.2 * (1 + absB s.1 + absB s.2.1) := Int.mul_nonneg (by omega) (by omega)
    have k2 : 0 < p.2 * (s.2.2.natAbs : Int) := Int.mul_pos h3 (by omega)
    have k3 : p.2 * (s.2.2.natAbs : Int) ≤ w * 3 := Int.mul_le_mul h4 n1.2 (by omega) (by omega)
    have z := wts_bound c (p.1 + p.2 * (1 + absB s.1 + absB s.2.1), p.2 * (s.2.2.natAbs : Int)) (p.1 + p.2 * (1 + absB s.1 + absB s.2.1)) (w * 3) (fun s hs => h s (List.mem_cons_of_mem _ hs)) (by show 0 ≤ p.1 + _; omega) (Int.le_refl _) k2 k3
    refine ⟨z.1, z.2.1, Int.le_trans z.2.2 ?_⟩
    rw [List.length_cons, Int.pow_succ, Int.mul_assoc, Int.mul_comm 3]
    exact Int.le_refl _
theorem thr_nn {c : List Sl} (h : okC c) : 0 ≤ thr c := (wts_bound c (0, 1) 0 1 h.2 (by decide) (by decide) (by decide) (by decide)).1
theorem per_pos {c : List Sl} (h : okC c) : 0 < per c := (wts_bound c (0, 1) 0 1 h.2 (by decide) (by decide) (by decide) (by decide)).2.1
theorem pow3_le {n : Nat} (h : n ≤ 4) : (3 : Int) ^ n ≤ 81 := by
  have : n = 0 ∨ n = 1 ∨ n = 2 ∨ n = 3 ∨ n = 4 := by omega
  rcases this with e | e | e | e | e <;> subst e <;> decide
theorem per_le {c : List Sl} (h : okC c) : per c ≤ 81 := by
  have := (wts_bound c (0, 1) 0 1 h.2 (by decide) (by decide) (by decide) (by decide)).2.2
  have := pow3_le h.1
  show (wts c (0, 1)).2 ≤ 81
  omega
theorem wts_thr_le : ∀ (c : List Sl) (p : Int × Int), (∀ s, s ∈ c → okS s) → 0 < p.2 → (wts c p).1 ≤ p.1 + 61 * p.2 * c.length * 3 ^ c.length
  | [], p, _, _ => by simp [wts]
  | s :: c, p, h, h3 => by
    have hs := h s List.mem_cons_self
    have a1 := absB_nn s.1
    have a2 := absB_nn s.2.1
    have b1 := absB_le hs.1
    have b2 := absB_le hs.2.1
    have n1 : 1 ≤ (s.2.2.natAbs : Int) ∧ (s.2.2.natAbs : Int) ≤ 3 := by
      obtain ⟨_, _, x, y, z⟩ := hs
      omega
    have e : wts (s :: c) p = wts c (p.1 + p.2 * (1 + absB s.1 + absB s.2.1), p.2 * (s.2.2.natAbs : Int)) := rfl
    rw [e]
    have k2 : 0 < p.2 * (s.2.2.natAbs : Int) := Int.mul_pos h3 (by omega)
    have z := wts_thr_le c (p.1 + p.2 * (1 + absB s.1 + absB s.2.1), p.2 * (s.2.2.natAbs : Int)) (fun s hs => h s (List.mem_cons_of_mem _ hs)) k2
    refine Int.le_trans z ?_
    show p.1 + p.2 * (1 + absB s.1 + absB s.2.1) + 61 * (p.2 * (s.2.2.natAbs : Int)) * c.length * 3 ^ c.length ≤ p.1 + 61 * p.2 * ((c.length + 1 : Nat) : Int) * 3 ^ (c.length + 1)
    have p3 : (1 : Int) ≤ 3 ^ c.length := by
      have : (0 : Int) < 3 ^ c.length := Int.pow_pos (by decide)
      omega
    have u1 : p.2 * (1 + absB s.1 + absB s.2.1) ≤ p.2 * 61 := Int.mul_le_mul_of_nonneg_left (by omega) (by omega)
    have u2 : p.2 * (s.2.2.natAbs : Int) ≤ p.2 * 3 := Int.mul_le_mul_of_nonneg_left n1.2 (by omega)
    have cl : (0 : Int) ≤ (c.length : Int) := Int.natCast_nonneg _
    have u3 : 61 * (p.2 * (s.2.2.natAbs : Int)) * c.length * 3 ^ c.length ≤ 61 * (p.2 * 3) * c.length * 3 ^ c.length := by
      refine Int.mul_le_mul_of_nonneg_right (Int.mul_le_mul_of_nonneg_right (by omega) cl) (by omega)
    have u4 : 61 * p.2 * ((c.length + 1 : Nat) : Int) * 3 ^ (c.length + 1) = 61 * (p.2 * 3) * c.length * 3 ^ c.length + 61 * p.2 * 3 * 3 ^ c.length := by
      rw [Int.pow_succ, Int.natCast_add, Int.mul_add]
      simp only [Int.mul_assoc, Int.mul_comm, Int.mul_left_comm, Int.add_mul, Int.mul_add, Int.natCast_one, Int.mul_one, Int.one_mul]
    have u5 : p.2 * 61 ≤ 61 * p.2 * 3 * 3 ^ c.length := by
      have : p.2 * 61 * 1 ≤ (61 * p.2 * 3) * 3 ^ c.length := Int.mul_le_mul (by omega) p3 (by decide) (by omega)
      omega
    omega
theorem thr_le {c : List Sl} (h : okC c) : thr c ≤ 20000 := by
  have z := wts_thr_le c (0, 1) h.2 (by decide)
  have h4 := h.1
  show (wts c (0, 1)).1 ≤ 20000
  have : c.length = 0 ∨ c.length = 1 ∨ c.length = 2 ∨ c.length = 3 ∨ c.length = 4 := by omega
  rcases this with e | e | e | e | e <;> rw [e] at z <;> exact Int.le_trans z (by decide)
end Sm

namespace Sc
open PySem PySem.Spec PyProof.Rows L2 Sm
/-! ### promises -/
def psp {α : Type} (enc : α → List Dt) (pre : α → Prop) (res : α → Dt) : Sp2 := fun ds S Q _ => ∃ a, ds = enc a ∧ pre a ∧ Q (res a) S
theorem psp.mono {α : Type} {enc : α → List Dt} {pre : α → Prop} {res : α → Dt} : (psp enc pre res).Mono := ⟨fun ds S Q Q' E E' h _ ⟨a, e, p, q⟩ => ⟨a, e, p, h _ _ q⟩⟩
theorem psp.len {α : Type} {enc : α → List Dt} {pre : α → Prop} {res : α → Dt} {n : Nat} (h : ∀ a, (enc a).length = n) : ∀ ds S Q E, psp enc pre res ds S Q E → ds.length = n := fun ds S Q E ⟨a, e, _, _⟩ => by rw [e]; exact h a
/-! ### data of the program -/
def dO : Option Int → Dt
  | none => .non
  | some i => .int i
def dS (s : Sl) : Dt := .tup [dO s.1, dO s.2.1, .int s.2.2]
def dCh (c : List Sl) : Dt := .tup (c.map dS)
def dPg (p : Pg) : Dt := .tup [.int p.1, .int p.2.1, .int p.2.2]
def dCl (p : Option Int × Option Int × Int) : Dt := .tup [dO p.1, dO p.2.1, .int p.2.2]
/-- no mutable object within -/
inductive Nr : Dt → Prop
  | non : Nr .non
  | bl (b : Bool) : Nr (.bl b)
  | int (i : Int) : Nr (.int i)
  | str (x : Str) : Nr (.str x)
  | tup {ds : List Dt} (h : ∀ d, d ∈ ds → Nr d) : Nr (.tup ds)
  | lst {ds : List Dt} (h : ∀ d, d ∈ ds → Nr d) : Nr (.lst ds)
def isInt (d : Dt) (lo hi : Int) : Bool := match d with
  | .int i => decide (lo ≤ i ∧ i ≤ hi)
  | _ => false
def isBnd (d : Dt) : Bool := isN d || isInt d (-30) 30
def isStp (d : Dt) : Bool := match d with
  | .int i => decide (-3 ≤ i ∧ i ≤ 3) && decide (i ≠ 0)
  | _ => false
def isSlc (d : Dt) : Bool := match d with
  | .tup [a, b, c] => isBnd a && isBnd b && isStp c
  | _ => false
def isChn (d : Dt) : Bool := match d with
  | .tup ds => decide (ds.length ≤ 4) && ds.all isSlc
  | _ => false
theorem dO_nr (o : Option Int) : Nr (dO o) := by cases o; exact .non; exact .int _
theorem dS_nr (s : Sl) : Nr (dS s) := .tup fun d h => by
  rcases List.mem_cons.mp h with e | h
  · subst e; exact dO_nr _
  rcases List.mem_cons.mp h with e | h
  · subst e; exact dO_nr _
  rcases List.mem_cons.mp h with e | h
  · subst e; exact .int _
  · cases h
theorem dCh_nr (c : List Sl) : Nr (dCh c) := .tup fun d h => by
  obtain ⟨s, _, e⟩ := List.mem_map.mp h
  subst e
  exact dS_nr s
theorem dO_isBnd {o : Option Int} (h : okB o) : isBnd (dO o) = true := by
  cases o with
  | none => rfl
  | some i => have := h i rfl; simp [isBnd, dO, isN, isInt, this]
theorem dS_isSlc {s : Sl} (h : okS s) : isSlc (dS s) = true := by
  obtain ⟨h1, h2, h3, h4, h5⟩ := h
  simp [isSlc, dS, dO_isBnd h1, dO_isBnd h2, isStp, h3, h4, h5]
theorem dCh_isChn {c : List Sl} (h : okC c) : isChn (dCh c) = true := by
  have : (c.map dS).all isSlc = true := by
    rw [List.all_eq_true]
    intro d hd
    obtain ⟨s, hs, e⟩ := List.mem_map.mp hd
    subst e
    exact dS_isSlc (h.2 s hs)
  simp only [isChn, dCh, this, List.length_map, h.1, decide_true, Bool.and_self]
/-! ### isinstance of such data -/
def tyN : Dt → String
  | .non => "NoneType" | .bl _ => "bool" | .int _ => "int" | .str _ => "str" | .tup _ => "tuple" | .lst _ => "list" | .ref _ => "list"
theorem tyName_nr {S : Cells} {d : Dt} (h : Nr d) : tyName S d = some (tyN d) := by cases h <;> rfl
def isiN (T : String) (d : Dt) : Bool := match d with
  | .bl _ => T == "bool" || T == "int"
  | .int _ => T == "int"
  | .tup _ => T == "tuple"
  | .lst _ => T == "list"
  | .str _ => T == "str"
  | _ => false
theorem kb_NoneType_int : kitB "NoneType" "int" = some false := by decide +kernel
theorem kb_bool_int : kitB "bool" "int" = some true := by decide +kernel
theorem kb_int_int : kitB "int" "int" = some true := by decide +kernel
theorem kb_str_int : kitB "str" "int" = some false := by decide +kernel
theorem kb_tuple_int : kitB "tuple" "int" = some false := by decide +kernel
theorem kb_list_int : kitB "list" "int" = some false := by decide +kernel
theorem isi_int {S : Cells} {d : Dt} (h : Nr d) : isiD S "int" d = some (isiN "int" d) := by
  unfold isiD
  rw [tyName_nr h]
  cases h with
  | non => exact kb_NoneType_int
  | bl b => exact kb_bool_int
  | int i => exact kb_int_int
  | str x => exact kb_str_int
  | tup h => exact kb_tuple_int
  | lst h => exact kb_list_int
theorem kb_NoneType_bool : kitB "NoneType" "bool" = some false := by decide +kernel
theorem kb_bool_bool : kitB "bool" "bool" = some true := by decide +kernel
theorem kb_int_bool : kitB "int" "bool" = some false := by decide +kernel
theorem kb_str_bool : kitB "str" "bool" = some false := by decide +kernel
theorem kb_tuple_bool : kitB "tuple" "bool" = some false := by decide +kernel
theorem kb_list_bool : kitB "list" "bool" = some false := by decide +kernel
theorem isi_bool {S : Cells} {d : Dt} (h : Nr d) : isiD S "bool" d = some (isiN "bool" d) := by
  unfold isiD
  rw [tyName_nr h]
  cases h with
  | non => exact kb_NoneType_bool
  | bl b => exact kb_bool_bool
  | int i => exact kb_int_bool
  | str x => exact kb_str_bool
  | tup h => exact kb_tuple_bool
  | lst h => exact kb_list_bool
theorem kb_NoneType_tuple : kitB "NoneType" "tuple" = some false := by decide +kernel
theorem kb_bool_tuple : kitB "bool" "tuple" = some false := by decide +kernel
theorem kb_int_tuple : kitB "int" "tuple" = some false := by decide +kernel
theorem kb_str_tuple : kitB "str" "tuple" = some false := by decide +kernel
theorem kb_tuple_tuple : kitB "tuple" "tuple" = some true := by decide +kernel
theorem kb_list_tuple : kitB "list" "tuple" = some false := by decide +kernel
theorem isi_tuple {S : Cells} {d : Dt} (h : Nr d) : isiD S "tuple" d = some (isiN "tuple" d) := by
  unfold isiD
  rw [tyName_nr h]
  cases h with
  | non => exact kb_NoneType_tuple
  | bl b => exact kb_bool_tuple
  | int i => exact kb_int_tuple
  | str x => exact kb_str_tuple
  | tup h => exact kb_tuple_tuple
  | lst h => exact kb_list_tuple
theorem kb_NoneType_str : kitB "NoneType" "str" = some false := by decide +kernel
theorem kb_bool_str : kitB "bool" "str" = some false := by decide +kernel
theorem kb_int_str : kitB "int" "str" = some false := by decide +kernel
theorem kb_str_str : kitB "str" "str" = some true := by decide +kernel
theorem kb_tuple_str : kitB "tuple" "str" = some false := by decide +kernel
theorem kb_list_str : kitB "list" "str" = some false := by decide +kernel
theorem isi_str {S : Cells} {d : Dt} (h : Nr d) : isiD S "str" d = some (isiN "str" d) := by
  unfold isiD
  rw [tyName_nr h]
  cases h with
  | non => exact kb_NoneType_str
  | bl b => exact kb_bool_str
  | int i => exact kb_int_str
  | str x => exact kb_str_str
  | tup h => exact kb_tuple_str
  | lst h => exact kb_list_str
/-! ### the promises of slices.py -/
def sp_is_integer : Sp2 := psp (α := Dt × Int × Int) (fun a => [a.1, .int a.2.1, .int a.2.2]) (fun a => Nr a.1) (fun a => .bl (isInt a.1 a.2.1 a.2.2))
def sp_is_bound : Sp2 := psp (α := Dt) (fun a => [a]) Nr (fun a => .bl (isBnd a))
def sp_is_step : Sp2 := psp (α := Dt) (fun a => [a]) Nr (fun a => .bl (isStp a))
def sp_is_slice : Sp2 := psp (α := Dt) (fun a => [a]) Nr (fun a => .bl (isSlc a))
def sp_is_chain : Sp2 := psp (α := Dt) (fun a => [a]) (fun a => Nr a) (fun a => .bl (isChn a))
def sp_require_chain : Sp2 := psp (α := Dt) (fun a => [a]) (fun a => Nr a ∧ isChn a = true) (fun _ => .non)
/-! ### the promises of forms.py, compare.py -/
def sp_threshold_of : Sp2 := psp (α := List Sl) (fun c => [dCh c]) okC (fun c => .int (thr c))
def sp_period_of : Sp2 := psp (α := List Sl) (fun c => [dCh c]) okC (fun c => .int (per c))
def sp_threshold : Sp2 := psp (α := List Sl) (fun c => [dCh c]) okC (fun c => .int (thr c))
def sp_period : Sp2 := psp (α := List Sl) (fun c => [dCh c]) okC (fun c => .int (per c))
def sp_common_multiple : Sp2 := psp (α := Int × Int) (fun a => [.int a.1, .int a.2]) (fun a => 0 < a.1 ∧ 0 < a.2 ∧ a.1 ≤ 1000000000 ∧ a.2 ≤ 1000000000) (fun a => .int (lcmI a.1 a.2))
def sp_last_threshold : Sp2 := psp (α := List Sl × List Sl) (fun a => [dCh a.1, dCh a.2]) (fun a => okC a.1 ∧ okC a.2) (fun a => .int (lastT a.1 a.2))
def sp_both_periods : Sp2 := psp (α := List Sl × List Sl) (fun a => [dCh a.1, dCh a.2]) (fun a => okC a.1 ∧ okC a.2) (fun a => .int (bothP a.1 a.2))
def sp_bound_for : Sp2 := psp (α := List Sl × List Sl) (fun a => [dCh a.1, dCh a.2]) (fun a => okC a.1 ∧ okC a.2) (fun a => .int (bnd a.1 a.2))
def sp_require_both : Sp2 := psp (α := List Sl × List Sl) (fun a => [dCh a.1, dCh a.2]) (fun a => okC a.1 ∧ okC a.2) (fun _ => .non)
def sp_compare_bound : Sp2 := psp (α := List Sl × List Sl) (fun a => [dCh a.1, dCh a.2]) (fun a => okC a.1 ∧ okC a.2) (fun a => .int (bnd a.1 a.2))
theorem dS_eq (s : Sl) : dS s = .tup [dO s.1, dO s.2.1, .int s.2.2] := rfl
/-! ### the promises of the law's own reckoning -/
def sp__law_part : Sp2 := psp (α := Sl × Int) (fun a => [dS a.1, .int a.2]) (fun a => okS a.1 ∧ 0 ≤ a.2) (fun a => .tup [.int (endsOf a.1 a.2).1, .int (manyOf a.1 a.2)])
def sp__law_shown : Sp2 := psp (α := List Sl × Int) (fun a => [dCh a.1, .int a.2]) (fun a => (∀ s, s ∈ a.1 → okS s) ∧ 0 ≤ a.2 ∧ a.2 ≤ 10 ^ 18) (fun a => dCl (clean a.1 a.2))
def sp__law_weights : Sp2 := psp (α := List Sl) (fun c => [dCh c]) okC (fun c => .tup [.int (thr c), .int (per c)])
def sp__law_multiple : Sp2 := psp (α := Int × Int) (fun a => [.int a.1, .int a.2]) (fun a => 0 < a.1 ∧ 0 < a.2) (fun a => .int (lcmI a.1 a.2))
def sp__law_limit : Sp2 := psp (α := List Sl × List Sl) (fun a => [dCh a.1, dCh a.2]) (fun a => okC a.1 ∧ okC a.2) (fun a => .tup [.int (lastT a.1 a.2), .int (bothP a.1 a.2)])
def sp__law_unlike : Sp2 := psp (α := List Sl × List Sl) (fun a => [dCh a.1, dCh a.2]) (fun a => okC a.1 ∧ okC a.2) (fun a => dO (firstD a.1 a.2))
/-- start or 0 -/
theorem or0 {i : Nat} {o : Option Int} {x : XK2} {ds : Ds} {S : Cells} {Q : QE} (h : ds[i]? = some (some (dO o))) (q : Q (.int (o.getD 0)) S) : dOrT (dVar i) (dC (.int 0)) x ds S Q := by
  refine ⟨_, h, ?_⟩
  cases o with
  | none => exact ⟨false, rfl, q⟩
  | some i =>
    refine ⟨_, rfl, ?_⟩
    by_cases h : i = 0
    · subst h
      exact q
    · rw [if_pos (by simpa using h)]
      exact q
theorem abs_int (i : Int) : (if i < 0 then -i else i) = (i.natAbs : Int) := by
  split <;> omega
theorem abs_eq {o : Option Int} : (if o.getD 0 < 0 then -o.getD 0 else o.getD 0) = absB o := by
  unfold absB
  split <;> omega
/-! ### short words -/
theorem iteP {c : Prop} [Decidable c] {A B : Prop} (h : c) (a : A) : if c then A else B := by
  rw [if_pos h]
  exact a
theorem iteN {c : Prop} [Decidable c] {A B : Prop} (h : ¬ c) (b : B) : if c then A else B := by
  rw [if_neg h]
  exact b
theorem nT {b : Bool} (h : b = false) : ¬ b = true := by rw [h]; decide
theorem asQ_tup {S : Cells} {es : List Dt} : asQ S (.tup es) = some es := rfl
theorem asQ_lst {S : Cells} {es : List Dt} : asQ S (.lst es) = some es := rfl
theorem asL_lst {S : Cells} {es : List Dt} : asL S (.lst es) = some es := rfl
theorem asT_tup {es : List Dt} : asT (.tup es) = some es := rfl
theorem asQ_ref {S : Cells} {a : Addr} {es : List Dt} (h : S a = some (.lst es)) : asQ S (.ref a) = some es := by
  show (match S a with | some (.lst ds) => some ds | _ => none) = some es
  rw [h]
theorem asL_ref {S : Cells} {a : Addr} {es : List Dt} (h : S a = some (.lst es)) : asL S (.ref a) = some es := asQ_ref h
theorem asQ_put {S : Cells} {a : Addr} {es : List Dt} : asQ (S.put a (.lst es)) (.ref a) = some es := asQ_ref Cells.put_same
theorem asL_put {S : Cells} {a : Addr} {es : List Dt} : asL (S.put a (.lst es)) (.ref a) = some es := asQ_ref Cells.put_same
theorem sEq_ii {i j : Int} : sEq (.int i) (.int j) = some (decide (i = j)) := rfl
theorem sEq_bb {i j : Bool} : sEq (.bl i) (.bl j) = some (decide (i = j)) := rfl
theorem sEq_ss {i j : Str} : sEq (.str i) (.str j) = some (decide (i = j)) := rfl
theorem sEq_nn : sEq .non .non = some true := rfl
theorem sEq_ni {j : Int} : sEq .non (.int j) = some false := rfl
theorem sEq_in {i : Int} : sEq (.int i) .non = some false := rfl
theorem isN_int {i : Int} : isN (.int i) = false := rfl
theorem isN_non : isN .non = true := rfl
theorem truD_int {S : Cells} {i : Int} : truD S (.int i) = some (i != 0) := rfl
theorem truD_non {S : Cells} : truD S .non = some false := rfl
/-! ### places of short lists -/
theorem at_0 {α : Type} {a : α} {l : List α} : atI (a :: l) 0 = some a := by
  unfold atI ixN
  rw [if_pos (Int.le_refl 0), if_pos (by rw [List.length_cons]; omega)]
  rfl
theorem at_1 {α : Type} {a b : α} {l : List α} : atI (a :: b :: l) 1 = some b := by
  unfold atI ixN
  rw [if_pos (by omega), if_pos (by rw [List.length_cons, List.length_cons]; omega)]
  rfl
theorem at_2 {α : Type} {a b c : α} {l : List α} : atI (a :: b :: c :: l) 2 = some c := by
  unfold atI ixN
  rw [if_pos (by omega), if_pos (by rw [List.length_cons, List.length_cons, List.length_cons]; omega)]
  rfl
theorem ix20 : ixN 2 0 = some 0 := rfl
theorem ix21 : ixN 2 1 = some 1 := rfl
theorem at_get {α : Type} {l : List α} {i : Int} (h0 : 0 ≤ i) (h1 : i < l.length) : ∃ a, atI l i = some a ∧ a ∈ l ∧ l[i.toNat]? = some a := by
  unfold atI ixN
  rw [if_pos h0, if_pos h1]
  have hl : i.toNat < l.length := by omega
  exact ⟨l[i.toNat], List.getElem?_eq_getElem hl, List.getElem_mem hl, List.getElem?_eq_getElem hl⟩
/-! ### the drawn numbers -/
def Bag (S : Cells) (b : Addr) : Prop := ∃ c s, S b = some (.lst [.int c, .int s])
theorem Bag.put {S : Cells} {b : Addr} {c s : Int} : Bag (S.put b (.lst [.int c, .int s])) b := ⟨c, s, Cells.put_same⟩
def bsp {α β : Type} (enc : α → List Dt) (pre : α → Prop) (post : α → β → Prop) (res : β → Dt) : Sp2 := fun ds S Q _ => ∃ b a, ds = .ref b :: enc a ∧ Bag S b ∧ pre a ∧ ∀ r c s, post a r → Q (res r) (S.put b (.lst [.int c, .int s]))
theorem bsp.mono {α β : Type} {enc : α → List Dt} {pre : α → Prop} {post : α → β → Prop} {res : β → Dt} : (bsp enc pre post res).Mono := ⟨fun ds S Q Q' E E' h _ ⟨b, a, e, hb, p, q⟩ => ⟨b, a, e, hb, p, fun r c s k => h _ _ (q r c s k)⟩⟩
theorem bsp.len {α β : Type} {enc : α → List Dt} {pre : α → Prop} {post : α → β → Prop} {res : β → Dt} {n : Nat} (h : ∀ a, (enc a).length + 1 = n) : ∀ ds S Q E, bsp enc pre post res ds S Q E → ds.length = n := fun ds S Q E ⟨b, a, e, _, _⟩ => by rw [e]; exact h a
def sp__law_take : Sp2 := bsp (α := Int) (β := Int) (fun n => [.int n]) (fun n => 0 < n ∧ n ≤ 10 ^ 16) (fun n r => 0 ≤ r ∧ r < n) .int
/-- one of a list -/
def sp__law_of : Sp2 := bsp (α := List Dt) (β := Dt) (fun l => [.lst l]) (fun l => 0 < l.length ∧ l.length ≤ 100000) (fun l d => d ∈ l) id
def inW (w : Int) (o : Option Int) : Prop := ∀ i, o = some i → -w ≤ i ∧ i ≤ w
def slW (w : Int) (s : Sl) : Prop := inW w s.1 ∧ inW w s.2.1 ∧ -3 ≤ s.2.2 ∧ s.2.2 ≤ 3 ∧ s.2.2 ≠ 0
def chW (m : Int) (w : Int) (c : List Sl) : Prop := (c.length : Int) ≤ m ∧ ∀ s, s ∈ c → slW w s
def sp__law_bound : Sp2 := bsp (α := Int) (β := Option Int) (fun w => [.int w]) (fun w => 1 ≤ w ∧ w ≤ 30) (fun w o => inW w o) dO
def sp__law_slice : Sp2 := bsp (α := Int) (β := Sl) (fun w => [.int w]) (fun w => 1 ≤ w ∧ w ≤ 30) (fun w s => slW w s) dS
def sp__law_chain : Sp2 := bsp (α := Int × Int) (β := List Sl) (fun a => [.int a.1, .int a.2]) (fun a => 0 ≤ a.1 ∧ a.1 ≤ 100 ∧ 1 ≤ a.2 ∧ a.2 ≤ 30) (fun a c => chW a.1 a.2 c) dCh
/-- the script at k, a new bag -/
def sp__law_bag : Sp2 := fun ds S Q _ => ∃ (ns : List Int) (k : Int), ds = [.lst (ns.map Dt.int), .int k] ∧ 0 ≤ k ∧ k ≤ 1000 ∧ ∀ p c s, S p = none → Q (.ref p) (S.put p (.lst [.int c, .int s]))
theorem bag_mono : sp__law_bag.Mono := ⟨fun ds S Q Q' E E' h _ ⟨ns, k, e, h0, h1, q⟩ => ⟨ns, k, e, h0, h1, fun p c s hp => h _ _ (q p c s hp)⟩⟩
theorem bag_len : ∀ ds S Q E, sp__law_bag ds S Q E → ds.length = 2 := fun ds S Q E ⟨ns, k, e, _⟩ => by rw [e]; rfl
end Sc

namespace Sc
open PySem PySem.Spec PyProof.Rows L2 Sm
/-! ### loops -/
section
variable {G : TG2} {B : TS2} {x : XK2} {D : Ends2} {T : TT2}
theorem loop_rest {α : Type} (enc : α → Dt) (I : List α → Ds → Cells → Prop) (step : ∀ a r ds S (N : Ds → Cells → Prop), I (a :: r) ds S → (∀ ds' S', I r ds' S' → N ds' S') → G (enc a) ds S fun ds1 S1 => B x ⟨N, D.rt, D.nx, N⟩ ds1 S1)
    (done : ∀ ds S, I [] ds S → D.nx ds S) : ∀ (l : List α) ds S, I l ds S → dLoop G B x D (l.map enc) ds S
  | [], ds, S, h => done ds S h
  | a :: r, ds, S, h => step a r ds S _ h fun ds' S' h' => loop_rest enc I step done r ds' S' h'
theorem loop_fold {α β : Type} (enc : α → Dt) (I : β → Ds → Cells → Prop) (f : β → α → β) {l : List α} {b : β} {ds : Ds} {S : Cells} (h0 : I b ds S)
    (step : ∀ b a ds S (N : Ds → Cells → Prop), a ∈ l → I b ds S → (∀ ds' S', I (f b a) ds' S' → N ds' S') → G (enc a) ds S fun ds1 S1 => B x ⟨N, D.rt, D.nx, N⟩ ds1 S1)
    (done : ∀ ds S, I (l.foldl f b) ds S → D.nx ds S) : dLoop G B x D (l.map enc) ds S := by
  refine loop_rest (B := B) enc (fun r ds S => ∃ b', I b' ds S ∧ r.foldl f b' = l.foldl f b ∧ ∀ a, a ∈ r → a ∈ l) ?st ?dn l ds S ⟨b, h0, rfl, fun _ h => h⟩
  case st =>
    intro a r ds S N ⟨b', h, e, m⟩ hN
    exact step b' a ds S N (m a List.mem_cons_self) h fun ds' S' h' => hN ds' S' ⟨f b' a, h', e, fun c hc => m c (List.mem_cons_of_mem _ hc)⟩
  case dn =>
    intro ds S ⟨b', h, e, _⟩
    have e' : b' = l.foldl f b := e
    rw [e'] at h
    exact done ds S h
theorem loop_rng (I : Nat → Ds → Cells → Prop) {lo : Int} {n : Nat} {ds : Ds} {S : Cells} (h0 : I 0 ds S)
    (step : ∀ (i : Nat) ds S (N : Ds → Cells → Prop), i < n → I i ds S → (∀ ds' S', I (i + 1) ds' S' → N ds' S') → G (.int (lo + (i : Int))) ds S fun ds1 S1 => B x ⟨N, D.rt, D.nx, N⟩ ds1 S1)
    (done : ∀ ds S, I n ds S → D.nx ds S) : dLoop G B x D (rng lo n) ds S := by
  unfold rng
  refine loop_rest (B := B) (fun i : Nat => Dt.int (lo + (i : Int))) (fun r ds S => ∃ i : Nat, I i ds S ∧ i + r.length = n ∧ r = List.range' i r.length) ?st ?dn _ ds S ⟨0, h0, by simp, by simp [List.range_eq_range']⟩
  case st =>
    intro a r ds S N ⟨i, h, e, m⟩ hN
    rw [List.length_cons, List.range'_succ] at m
    obtain ⟨rfl, hr⟩ := List.cons.inj m
    rw [List.length_cons] at e
    exact step a ds S N (by omega) h fun ds' S' h' => hN ds' S' ⟨a + 1, h', by omega, hr⟩
  case dn =>
    intro ds S ⟨i, h, e, _⟩
    rw [List.length_nil] at e
    have e' : i = n := by omega
    rw [e'] at h
    exact done ds S h
theorem wh_inv {α : Type} (I : α → Ds → Cells → Prop) (μ : α → Nat) (step : ∀ a ds S (N : Ds → Cells → Prop), I a ds S → (∀ a' ds' S', μ a' < μ a → I a' ds' S' → N ds' S') → T x ds S fun k S1 => if k = true then B x ⟨N, D.rt, D.nx, N⟩ ds S1 else D.nx ds S1)
    {a : α} {ds : Ds} {S : Cells} (h : I a ds S) : dWhile T B x D ds S := by
  have go : ∀ n a ds S, μ a < n → I a ds S → dWhN T B x D n ds S := by
    intro n
    induction n with
    | zero => exact fun a ds S h => absurd h (Nat.not_lt_zero _)
    | succ n ih => exact fun a ds S hl hI => step a ds S _ hI fun a' ds' S' hm h' => ih a' ds' S' (by omega) h'
  exact ⟨μ a + 1, go _ a ds S (Nat.lt_succ_self _) h⟩
end
/-- a comprehension whose elements change nothing -/
theorem comp_map {G : TG2} {Te : TE2} {p : Addr} {ds : Ds} {Q : QE} (g : Dt → Dt) : ∀ (items acc : List Dt) (S : Cells), acc.length + items.length < 100000 →
    (∀ d, d ∈ items → ∀ (S : Cells) (R : QE), R (g d) S → G d ds S fun ds2 S2 => Te x0 ds2 S2 R) → (∀ c, Q (.lst (acc ++ items.map g)) ((S.put p c).del p)) → dComp G dYes Te p ds Q items acc (S.put p (.lst acc))
  | [], acc, S, _, h, q => ⟨Cells.put_same, .inl (by simpa using q _)⟩
  | d :: r, acc, S, hl, h, q => by
    have hl' : acc.length + (r.length + 1) < 100000 := hl
    refine h d List.mem_cons_self _ (fun y S4 => S4 p = some (.lst acc) ∧ acc.length < 100000 ∧ dComp G dYes Te p ds Q r (acc ++ [y]) (S4.put p (.lst (acc ++ [y])))) ⟨Cells.put_same, by omega, ?_⟩
    rw [Cells.put_put]
    refine comp_map g r (acc ++ [g d]) S (by rw [List.length_append, List.length_singleton]; omega) (fun e he => h e (List.mem_cons_of_mem _ he)) fun c => ?_
    have := q c
    simpa using this
theorem del_put {S : Cells} {p : Addr} {c : Cell} (h : S p = none) : (S.put p c).del p = S := by
  funext a
  unfold Cells.del Cells.put
  by_cases e : a = p
  · rw [if_pos e, e, h]
  · rw [if_neg e, if_neg e]
/-- the same, the whole expression -/
theorem lc_map {I : TI2} {G : TG2} {Te : TE2} {x : XK2} {ds : Ds} {S : Cells} {Q : QE} {items : List Dt} (g : Dt → Dt) (hi : ∀ R : List Dt → Cells → Prop, R items S → I x ds S R) (hl : items.length < 100000)
    (h : ∀ d, d ∈ items → ∀ (S : Cells) (R : QE), R (g d) S → G d ds S fun ds2 S2 => Te x0 ds2 S2 R) (q : Q (.lst (items.map g)) S) : dLc I G dYes Te x ds S Q :=
  hi _ fun p hp => comp_map g items [] S (by simpa using hl) h fun c => by
    rw [del_put hp]
    simpa using q
theorem put_comm {S : Cells} {a b : Addr} {x y : Cell} (h : a ≠ b) : (S.put a x).put b y = (S.put b y).put a x := by
  funext c
  unfold Cells.put
  by_cases h1 : c = b
  · rw [if_pos h1, if_neg (by rw [h1]; exact h.symm), if_pos h1]
  · rw [if_neg h1, if_neg h1]
theorem put_self {S : Cells} {a : Addr} {x : Cell} (h : S a = some x) : S.put a x = S := by
  funext c
  unfold Cells.put
  by_cases h1 : c = a
  · rw [if_pos h1, h1, h]
  · rw [if_neg h1]
theorem del_put_ne {S : Cells} {a p : Addr} {x c : Cell} (hp : S p = none) (h : a ≠ p) : ((S.put a x).put p c).del p = S.put a x := del_put (by rw [Cells.put_ne h.symm]; exact hp)
/-- a comprehension whose elements draw from the bag at b -/
theorem comp_bag {β : Type} (res : β → Dt) (good : β → Prop) {G : TG2} {Te : TE2} {p b : Addr} (hbp : b ≠ p) {ds : Ds} {Q : QE} : ∀ (items : List Dt) (acc : List β) (S : Cells) (c s : Int), acc.length + items.length < 100000 → (∀ r, r ∈ acc → good r) →
    (∀ d, d ∈ items → ∀ (S : Cells) (R : QE), Bag S b → (∀ r c s, good r → R (res r) (S.put b (.lst [.int c, .int s]))) → G d ds S fun ds2 S2 => Te x0 ds2 S2 R) →
    (∀ (l : List β) c s k, l.length = acc.length + items.length → (∀ r, r ∈ l → good r) → Q (.lst (l.map res)) (((S.put b (.lst [.int c, .int s])).put p k).del p)) →
    dComp G dYes Te p ds Q items (acc.map res) ((S.put b (.lst [.int c, .int s])).put p (.lst (acc.map res)))
  | [], acc, S, c, s, _, hg, h, q => ⟨Cells.put_same, .inl (q acc c s _ (by simp) hg)⟩
  | d :: r, acc, S, c, s, hl, hg, h, q => by
    have hl' : acc.length + (r.length + 1) < 100000 := hl
    refine h d List.mem_cons_self _ (fun y S4 => S4 p = some (.lst (acc.map res)) ∧ (acc.map res).length < 100000 ∧ dComp G dYes Te p ds Q r (acc.map res ++ [y]) (S4.put p (.lst (acc.map res ++ [y])))) ⟨c, s, by rw [Cells.put_ne hbp]; exact Cells.put_same⟩ fun z c2 s2 hz => ?_
    rw [put_comm (Ne.symm hbp), Cells.put_put]
    refine ⟨Cells.put_same, by rw [List.length_map]; omega, ?_⟩
    rw [Cells.put_put]
    have e : acc.map res ++ [res z] = (acc ++ [z]).map res := by simp
    rw [e]
    refine comp_bag res good hbp r (acc ++ [z]) S c2 s2 (by rw [List.length_append, List.length_singleton]; omega) ?_ (fun e he => h e (List.mem_cons_of_mem _ he)) ?_
    · intro r' hr
      rcases List.mem_append.mp hr with hr | hr
      · exact hg r' hr
      · rw [List.mem_singleton.mp hr]
        exact hz
    · intro l c3 s3 k hl3 hgl
      refine q l c3 s3 k ?_ hgl
      rw [hl3, List.length_append, List.length_singleton, List.length_cons]
      omega
theorem bag_comp {β : Type} (res : β → Dt) (good : β → Prop) {G : TG2} {Te : TE2} {ds : Ds} {S : Cells} {Q : QE} {items : List Dt} {b : Addr} (hb : Bag S b) (hl : items.length < 100000)
    (h : ∀ d, d ∈ items → ∀ (S : Cells) (R : QE), Bag S b → (∀ r c s, good r → R (res r) (S.put b (.lst [.int c, .int s]))) → G d ds S fun ds2 S2 => Te x0 ds2 S2 R)
    (q : ∀ (l : List β) c s, l.length = items.length → (∀ r, r ∈ l → good r) → Q (.lst (l.map res)) (S.put b (.lst [.int c, .int s]))) : ∀ p, S p = none → dComp G dYes Te p ds Q items [] (S.put p (.lst [])) := fun p hp => by
  obtain ⟨c, s, e⟩ := hb
  have hbp : b ≠ p := Cells.ne_new e hp
  have z := comp_bag res good hbp (G := G) (Te := Te) (ds := ds) (Q := Q) items [] S c s (by simpa using hl) (fun _ h => by cases h) h fun l c2 s2 k hl2 hg => by
    rw [del_put_ne hp hbp]
    exact q l c2 s2 (by simpa using hl2) hg
  rw [put_self e] at z
  exact z
end Sc

namespace Sc
open PySem PySem.Spec PyProof.Rows L2 Sm
/-- what the law promises -/
def sp_law : Sp2 := fun ds S Q _ => ∃ ns : List Int, ds = [.lst (ns.map Dt.int)] ∧ ns.length ≤ 63 ∧ ∀ S', Q (.bl true) S'
theorem law_len : ∀ ds S Q E, sp_law ds S Q E → ds.length = 1 := fun ds S Q E ⟨ns, e, _⟩ => by rw [e]; rfl
theorem rps_ints {K : PySem.W.Frag} {I : Hp} : ∀ ns : List Int, Rps K I (ns.map Dt.int) (ns.map V.int)
  | [] => rfl
  | n :: ns => ⟨_, _, rfl, rfl, rps_ints ns⟩
theorem law_in {K : PySem.W.Frag} {H : Hp} {a : Addr} {ns : List Int} (hl : ns.length ≤ 63) (h : SqL K H a (ns.map V.int)) : lift K sp_law [.ref a] H (fun v _ => v = .bl true) fun _ _ _ => False := by
  refine ⟨fun _ => none, [.lst (ns.map Dt.int)], (fun b c e => nomatch e), ⟨_, _, rfl, ⟨a, ns.map V.int, rfl, ?_, rps_ints ns⟩, rfl⟩, ns, rfl, hl, fun S' v H' st r => r⟩
  have e : wo (fun _ => none) H = H := funext fun b => wo_none rfl
  rw [e]
  exact h
/-- the end: the law's promise, over every written part -/
theorem end_walk {l : PySem.W.OpenLaw} {k : Nat} {q : Program} {loose : List Str} {XP : (Str → Option Value) → Heap → Prop} {YP : World → Heap → Prop} {d : DefRec}
    (e63 : l.most = some 63) (nodf : d.params.defaults = []) (room : Room k callerA)
    (F : ∀ (w : World) (mg : Str → Option Value) (fa : Addr) (h : Heap), YP w h → h.Ns mainGlobals mg → mg d.name = some (.ref fa) →
      ∃ (K : PySem.W.Frag) (fd : FuncData), K.In h ∧ (∀ (s : Shared) (u : Value), BindsTo s fd ⟨[u], []⟩ [("_law_script", u)]) ∧
        ∀ base : Heap, K.In base → base.Ns mainGlobals mg → FnOk l.prog w K mg base (L2.CX l.prog w) k fa fd ["_law_script"] (lift K sp_law)) :
    PySem.W.WalkO q loose XP YP l.row.toRowW d [] (fun f vs => PySem.call f vs) := by
  refine Att.attach_call e63 nodf fun w z0 z1 mg mb fa ob pm cdv doc ad us ns gr yy _ _ _ named sq numz few gens0 => ?_
  obtain ⟨K, fd, inK, binds, keeps⟩ := F w mg fa _ yy gr.T.g named
  refine law_call inK gr.T.g gr.T.b gr.T.builtins gr.T.nolimit gens0 sq numz (Nat.le_trans few (by decide)) room keeps binds (fun H _ hS => law_in few hS) fun H e s' z => ?_
  unfold L2.CX at z
  obtain ⟨_, _, _, _, _, _, _, _, _, _, _, _, z⟩ := z
  exact z
end Sc

namespace Sc
open PySem PySem.Spec PyProof.Rows L2 Sm
/-! ### equal data -/
theorem rsv_tup {S : Cells} {ds : List Dt} : rsv S (.tup ds) = .tup ds := rfl
theorem rsv_lst {S : Cells} {ds : List Dt} : rsv S (.lst ds) = .lst ds := rfl
theorem deq_self {S : Cells} {d : Dt} {n : Nat} (o : Ok0 n (rsv S d)) (hn : n ≤ 64) : DEq S d d true := ⟨n, n, hn, hn, o, o, by simp⟩
theorem ne_self {S : Cells} {Q : QE} {d : Dt} {n : Nat} (o : Ok0 n (rsv S d)) (hn : n ≤ 64) (q : Q (.bl false) S) : qNeD d d S Q := ⟨true, deq_self o hn, q⟩
theorem eq_self {S : Cells} {Q : QE} {d : Dt} {n : Nat} (o : Ok0 n (rsv S d)) (hn : n ≤ 64) (q : Q (.bl true) S) : qEqD d d S Q := ⟨true, deq_self o hn, q⟩
theorem ok_t2 {i j : Int} : Ok0 1 (.tup [.int i, .int j]) := .tup fun d h => by
  rcases List.mem_cons.mp h with e | h
  · subst e; exact .int _ _
  rcases List.mem_cons.mp h with e | h
  · subst e; exact .int _ _
  cases h
theorem dO_ok (n : Nat) (o : Option Int) : Ok0 n (dO o) := by cases o; exact .non _; exact .int _ _
theorem dS_ok (s : Sl) : Ok0 1 (dS s) := .tup fun d h => by
  rcases List.mem_cons.mp h with e | h
  · subst e; exact dO_ok _ _
  rcases List.mem_cons.mp h with e | h
  · subst e; exact dO_ok _ _
  rcases List.mem_cons.mp h with e | h
  · subst e; exact .int _ _
  cases h
theorem dCh_ok (c : List Sl) : Ok0 2 (dCh c) := .tup fun d h => by
  obtain ⟨s, _, e⟩ := List.mem_map.mp h
  subst e
  exact dS_ok s
theorem dCl_ok (p : Option Int × Option Int × Int) : Ok0 1 (dCl p) := dS_ok p
theorem dO_inj {a b : Option Int} : dO a = dO b ↔ a = b := by
  cases a <;> cases b <;> simp [dO]
theorem dCl_inj {a b : Option Int × Option Int × Int} : dCl a = dCl b ↔ a = b := by
  obtain ⟨a1, a2, a3⟩ := a
  obtain ⟨b1, b2, b3⟩ := b
  simp [dCl, dO_inj]
/-- of the law's own drawing -/
theorem chW_ok {m w : Int} {c : List Sl} (hm : m ≤ 4) (hw : w ≤ 30) (h : chW m w c) : okC c := by
  refine ⟨by have := h.1; omega, fun s hs => ?_⟩
  obtain ⟨h1, h2, h3⟩ := h.2 s hs
  exact ⟨fun i e => by have := h1 i e; omega, fun i e => by have := h2 i e; omega, h3⟩
theorem slW_ok {w : Int} {s : Sl} (hw : w ≤ 30) (h : slW w s) : okS s := by
  obtain ⟨h1, h2, h3⟩ := h
  exact ⟨fun i e => by have := h1 i e; omega, fun i e => by have := h2 i e; omega, h3⟩
theorem lit_ok {c : List Sl} (hl : c.length ≤ 4) (h : c.all (fun s => decide ((s.1.getD 0).natAbs ≤ 30) && decide ((s.2.1.getD 0).natAbs ≤ 30) && decide (-3 ≤ s.2.2) && decide (s.2.2 ≤ 3) && decide (s.2.2 ≠ 0)) = true) : okC c := by
  refine ⟨hl, fun s hs => ?_⟩
  have z := List.all_eq_true.mp h s hs
  simp only [Bool.and_eq_true, decide_eq_true_eq] at z
  obtain ⟨⟨⟨⟨h1, h2⟩, h3⟩, h4⟩, h5⟩ := z
  exact ⟨fun i e => by rw [e] at h1; have h1 : i.natAbs ≤ 30 := h1; omega, fun i e => by rw [e] at h2; have h2 : i.natAbs ≤ 30 := h2; omega, h3, h4, h5⟩
/-- the rounds of a law -/
theorem turns_le (n : Nat) : -1000000000000000000 ≤ (if (8 : Int) < (n : Int) then (8 : Int) else (n : Int)) + 2 ∧ (if (8 : Int) < (n : Int) then (8 : Int) else (n : Int)) + 2 ≤ 10 := by
  split <;> omega
end Sc

namespace Sc
open PySem PySem.Spec PyProof.Rows L2 Sm
local macro_rules | `(tactic| walk_at "wp") => `(tactic| simp only [dRet, dSeq, dIfS, dNext, dDrop, dSet, dAsg, dPar, dPar3, dAug, dVar, dC, dOp, dUn, dTest, dTru, dNot, dAnd, dOr, dAndV, dOrV, dNotV, dIf, dChain, dCall, dCons, dNil, dCB, dTup, dLst, dIsi, dStore, kSub, dYes, dFor, dIt, dItL, dRng1, dRng2, dSl, dNoP, dPart, dMt, dRaise,
  qI, qI0, qAdd, qSub, qMul, qFdiv, qFdivN, qMod, qPow, qLt, qLe, qGt, qGe, qEq, qNe, qIsN, qNotN, qIsB, qNotB, qNeg, qAbs, qMax2, qMin2, qLen, qIx, qTupOf, qLstOf, qSlT, qSlL, qCatT, qRepT, kName, kTup, kCons, kNil, start2, List.map_cons, List.map_nil, List.length_cons, List.length_nil, List.replicate, List.cons_append, List.nil_append, List.append_nil,
  List.getElem?_cons_zero, List.getElem?_cons_succ, List.set_cons_zero, List.set_cons_succ, Option.some.injEq, exists_eq_left', exists_eq_left, Dt.int.injEq, Dt.bl.injEq, Dt.ref.injEq, Dt.tup.injEq, Dt.lst.injEq, Nat.sub_zero, Nat.zero_add, Nat.reduceAdd, Nat.reduceSub, asQ_tup, asQ_lst, asL_lst, asT_tup, asQ_put, asL_put, exists_and_left, List.cons.injEq, and_true, isN_int, isN_non, truD_int, truD_non, at_0, at_1, at_2, ix20, ix21, Cells.put_same, Cells.put_put, Cell.lst.injEq, sEq_ii, sEq_bb, sEq_ss, sEq_nn, sEq_ni, sEq_in, true_and, decide_eq_true_eq, and_assoc])
/-! ### slices.py: what is a slice, a chain -/
def T_is_integer : TS2 :=
  (dRet (dAndV (dIsi "int" (dVar 0)) (dAndV (dNotV (dIsi "bool" (dVar 0))) (dChain qLe qLe (dVar 1) (dVar 0) (dVar 2)))))
theorem pure_is_integer : Pure 3 sp_is_integer T_is_integer := by
  rintro ds S Q E frg ⟨⟨d, lo, hi⟩, rfl, hn, q⟩
  unfold T_is_integer
  walk_at "wp"
  simp only [isi_int hn, isi_bool hn, Option.some.injEq, exists_eq_left']
  cases d <;> simp only [isiN, isInt] at q ⊢ <;> try simpa using q
  rename_i i
  by_cases h1 : lo ≤ i <;> by_cases h2 : i ≤ hi <;> simpa [h1, h2] using q
def T_is_bound : TS2 :=
  (dRet (dOrV (dOp qIsN (dVar 0) (dC .non)) (dCall sp_is_integer (dCons (dVar 0) (dCons (dOp qSub (dC (.int 0)) (dC (.int 30))) (dCons (dC (.int 30)) dNil))))))
theorem pure_is_bound : Pure 1 sp_is_bound T_is_bound := by
  rintro ds S Q E frg ⟨d, rfl, hn, q⟩
  unfold T_is_bound
  walk_at "wp"
  simp only [isBnd] at q
  cases h : isN d
  · refine ⟨(d, -30, 30), rfl, hn, ?_⟩
    simpa [h] using q
  · simpa [h] using q
def T_is_step : TS2 :=
  (dRet (dAndV (dCall sp_is_integer (dCons (dVar 0) (dCons (dOp qSub (dC (.int 0)) (dC (.int 3))) (dCons (dC (.int 3)) dNil)))) (dOp qNe (dVar 0) (dC (.int 0)))))
theorem pure_is_step : Pure 1 sp_is_step T_is_step := by
  rintro ds S Q E frg ⟨d, rfl, hn, q⟩
  unfold T_is_step
  walk_at "wp"
  refine ⟨(d, -3, 3), rfl, hn, _, rfl, ?_⟩
  cases d with
  | int i =>
    simp only [isStp, isInt] at q ⊢
    by_cases h1 : -3 ≤ i ∧ i ≤ 3
    · refine iteP (decide_eq_true h1) ⟨_, rfl, ?_⟩
      simpa [h1] using q
    · refine iteN (nT (decide_eq_false h1)) ?_
      simpa [h1] using q
  | _ => exact q
theorem qlen {es : List Dt} {S : Cells} {Q : QE} (q : Q (.int es.length) S) : qLen [.tup es] S Q := ⟨_, es, rfl, rfl, q⟩
def T_is_slice : TS2 :=
  (dSeq (dIfS (dOr (dNot (dTest (dIsi "tuple" (dVar 0)))) (dTest (dOp qNe (dCB qLen (dCons (dVar 0) dNil)) (dC (.int 3))))) (dRet (dC (.bl false))) dNext)
  (dRet (dAndV (dCall sp_is_bound (dCons (dOp qIx (dVar 0) (dC (.int 0))) dNil)) (dAndV (dCall sp_is_bound (dCons (dOp qIx (dVar 0) (dC (.int 1))) dNil)) (dCall sp_is_step (dCons (dOp qIx (dVar 0) (dC (.int 2))) dNil))))))
theorem pure_is_slice : Pure 1 sp_is_slice T_is_slice := by
  rintro ds S Q E frg ⟨d, rfl, hn, q⟩
  unfold T_is_slice
  walk_at "wp"
  refine ⟨_, isi_tuple hn, ?_⟩
  cases hn with
  | tup h =>
    rename_i es
    refine iteN (nT (by rfl)) ⟨es, rfl, ?_⟩
    by_cases h3 : (es.length : Int) = 3
    · obtain ⟨a, b, c, rfl⟩ : ∃ a b c, es = [a, b, c] := by
        match es, h3 with
        | [a, b, c], _ => exact ⟨a, b, c, rfl⟩
        | [], h => simp at h
        | [_], h => simp at h
        | [_, _], h => simp at h
        | _ :: _ :: _ :: _ :: l, h => simp at h; omega
      refine iteN (by simp) ⟨_, rfl, _, at_0, a, rfl, h a (by simp), _, rfl, ?_⟩
      simp only [isSlc] at q
      refine ite2 (fun h1 => ?_) (fun h1 => ?_)
      · rw [h1, Bool.true_and] at q
        refine ⟨_, rfl, _, at_1, b, rfl, h b (by simp), _, rfl, ?_⟩
        refine ite2 (fun h2 => ?_) (fun h2 => ?_)
        · rw [h2, Bool.true_and] at q
          exact ⟨_, rfl, _, at_2, c, rfl, h c (by simp), q⟩
        · simpa [h2] using q
      · simpa [h1] using q
    · refine iteP (by simp [h3]) ?_
      have e : isSlc (.tup es) = false := by
        unfold isSlc
        split
        · rename_i heq
          cases heq
          simp at h3
        · rfl
      have q : Q (.bl (isSlc (.tup es))) S := q
      rw [e] at q
      exact q
  | _ => exact q
def T_is_chain : TS2 :=
  (dRet (dAndV (dIsi "tuple" (dVar 0)) (dAndV (dOp qLe (dCB qLen (dCons (dVar 0) dNil)) (dC (.int 4))) (dCB qAll (dCons (dLc (dIt (dVar 0)) (kName 1) dYes (dCall sp_is_slice (dCons (dVar 1) dNil))) dNil)))))
theorem pure_is_chain : Pure 2 sp_is_chain T_is_chain := by
  rintro ds S Q E frg ⟨d, rfl, hn, q⟩
  unfold T_is_chain
  walk_at "wp"
  refine ⟨_, isi_tuple hn, ?_⟩
  cases hn with
  | tup h =>
    rename_i es
    refine iteP rfl ⟨es, rfl, ?_⟩
    simp only [isChn] at q
    by_cases h4 : es.length ≤ 4
    · have h4' : (es.length : Int) ≤ 4 := by omega
      refine iteP h4' ?_
      refine lc_map (items := es) (fun d => .bl (isSlc d)) (fun R r => ⟨_, rfl, es, rfl, r⟩) (by omega) (fun d hd S R r => ?_) ?_
      · exact ⟨d, rfl, d, rfl, h d hd, r⟩
      · refine ⟨_, es.map isSlc, rfl, ?_, ?_⟩
        · show some _ = some _
          rw [List.map_map]
          rfl
        · rw [List.all_map]
          simpa [h4] using q
    · refine iteN (by omega) ?_
      simpa [h4] using q
  | _ => exact q
def T_require_chain (a_InvalidChain : Addr) : TS2 :=
  (dIfS (dNot (dTest (dCall sp_is_chain (dCons (dVar 0) dNil)))) (dRaise a_InvalidChain) dNext)
theorem pure_require_chain (a : Addr) : Pure 1 sp_require_chain (T_require_chain a) := by
  rintro ds S Q E frg ⟨d, rfl, ⟨hn, hc⟩, q⟩
  unfold T_require_chain
  walk_at "wp"
  exact ⟨d, rfl, hn, _, rfl, iteN (by rw [hc]; decide) q⟩
end Sc

namespace Sc
open PySem PySem.Spec PyProof.Rows L2 Sm
local macro_rules | `(tactic| walk_at "wp") => `(tactic| simp only [dRet, dSeq, dIfS, dNext, dDrop, dSet, dAsg, dPar, dPar3, dAug, dVar, dC, dOp, dUn, dTest, dTru, dNot, dAnd, dOr, dAndV, dOrV, dNotV, dIf, dChain, dCall, dCons, dNil, dCB, dTup, dLst, dIsi, dStore, kSub, dYes, dFor, dIt, dItL, dRng1, dRng2, dSl, dNoP, dPart, dMt, dRaise,
  qI, qI0, qAdd, qSub, qMul, qFdiv, qFdivN, qMod, qPow, qLt, qLe, qGt, qGe, qEq, qNe, qIsN, qNotN, qIsB, qNotB, qNeg, qAbs, qMax2, qMin2, qLen, qIx, qTupOf, qLstOf, qSlT, qSlL, qCatT, qRepT, kName, kTup, kCons, kNil, start2, List.map_cons, List.map_nil, List.length_cons, List.length_nil, List.replicate, List.cons_append, List.nil_append, List.append_nil,
  List.getElem?_cons_zero, List.getElem?_cons_succ, List.set_cons_zero, List.set_cons_succ, Option.some.injEq, exists_eq_left', exists_eq_left, Dt.int.injEq, Dt.bl.injEq, Dt.ref.injEq, Dt.tup.injEq, Dt.lst.injEq, Nat.sub_zero, Nat.zero_add, Nat.reduceAdd, Nat.reduceSub, asQ_tup, asQ_lst, asL_lst, asT_tup, asQ_put, asL_put, exists_and_left, List.cons.injEq, and_true, isN_int, isN_non, truD_int, truD_non, at_0, at_1, at_2, ix20, ix21, Cells.put_same, Cells.put_put, Cell.lst.injEq, sEq_ii, sEq_bb, sEq_ss, sEq_nn, sEq_ni, sEq_in, true_and, decide_eq_true_eq, and_assoc])
/-! ### forms.py -/
def T_threshold_of : TS2 :=
  (dSeq (dAsg (dTup (dCons (dC (.int 0)) (dCons (dC (.int 1)) dNil))) (kTup 2 (kCons (kName 1) (kCons (kName 2) kNil))))
  (dSeq (dFor (dIt (dVar 0)) (kTup 3 (kCons (kName 3) (kCons (kName 4) (kCons (kName 5) kNil)))) (dSeq (dAug 1 qAdd (dOp qMul (dVar 2) (dOp qAdd (dOp qAdd (dC (.int 1)) (dCB qAbs (dCons (dOrT (dVar 3) (dC (.int 0))) dNil))) (dCB qAbs (dCons (dOrT (dVar 4) (dC (.int 0))) dNil)))))
  (dAug 2 qMul (dCB qAbs (dCons (dVar 5) dNil)))))
  (dRet (dVar 1))))
theorem pure_threshold_of : Pure 6 sp_threshold_of T_threshold_of := by
  rintro ds S Q E frg ⟨c, rfl, hc, q⟩
  unfold T_threshold_of
  walk_at "wp"
  refine ⟨by decide, _, rfl, ?_⟩
  refine loop_fold dS (fun (b : Int × Int) ds S' => S' = S ∧ ∃ u v w, ds = [some (dCh c), some (.int b.1), some (.int b.2), u, v, w]) (fun p s => (p.1 + p.2 * (1 + absB s.1 + absB s.2.1), p.2 * (s.2.2.natAbs : Int))) (b := (0, 1)) ⟨rfl, _, _, _, rfl⟩ ?_ ?_
  · rintro b s ds S' N hs ⟨rfl, u, v, w, rfl⟩ hN
    rw [dS_eq]
    walk_at "wp"
    refine or0 rfl ?_
    walk_at "wp"
    refine or0 rfl ?_
    walk_at "wp"
    rw [abs_eq, abs_eq, abs_int]
    have o := hc.2 s hs
    have b1 := absB_nn s.1
    have b2 := absB_nn s.2.1
    have b3 := absB_le o.1
    have b4 := absB_le o.2.1
    have h4 := o.2.2
    exact ⟨.inr (by omega), .inr (by omega), hN _ _ ⟨rfl, _, _, _, rfl⟩⟩
  · rintro ds S' ⟨rfl, u, v, w, rfl⟩
    exact ⟨_, rfl, q⟩
def T_period_of : TS2 :=
  (dSeq (dSet 1 (dC (.int 1)))
  (dSeq (dFor (dIt (dVar 0)) (kTup 3 (kCons (kName 2) (kCons (kName 3) (kCons (kName 4) kNil)))) (dAug 1 qMul (dCB qAbs (dCons (dVar 4) dNil))))
  (dRet (dVar 1))))
theorem pure_period_of : Pure 5 sp_period_of T_period_of := by
  rintro ds S Q E frg ⟨c, rfl, hc, q⟩
  unfold T_period_of
  walk_at "wp"
  refine ⟨_, rfl, ?_⟩
  refine loop_fold dS (fun (b : Int × Int) ds S' => S' = S ∧ ∃ u v w, ds = [some (dCh c), some (.int b.2), u, v, w]) (fun p s => (p.1 + p.2 * (1 + absB s.1 + absB s.2.1), p.2 * (s.2.2.natAbs : Int))) (b := (0, 1)) ⟨rfl, _, _, _, rfl⟩ ?_ ?_
  · rintro b s ds S' N hs ⟨rfl, u, v, w, rfl⟩ hN
    rw [dS_eq]
    walk_at "wp"
    rw [abs_int]
    have h4 := (hc.2 s hs).2.2
    exact ⟨.inr (by omega), hN _ _ ⟨rfl, _, _, _, rfl⟩⟩
  · rintro ds S' ⟨rfl, u, v, w, rfl⟩
    exact ⟨_, rfl, q⟩
theorem chain_req {c : List Sl} (h : okC c) : Nr (dCh c) ∧ isChn (dCh c) = true := ⟨dCh_nr c, dCh_isChn h⟩
def T_threshold : TS2 :=
  (dSeq (dDrop (dCall sp_require_chain (dCons (dVar 0) dNil)))
  (dRet (dCall sp_threshold_of (dCons (dVar 0) dNil))))
theorem pure_threshold : Pure 1 sp_threshold T_threshold := by
  rintro ds S Q E frg ⟨c, rfl, hc, q⟩
  unfold T_threshold
  walk_at "wp"
  exact ⟨_, rfl, chain_req hc, c, rfl, hc, q⟩
def T_period : TS2 :=
  (dSeq (dDrop (dCall sp_require_chain (dCons (dVar 0) dNil)))
  (dRet (dCall sp_period_of (dCons (dVar 0) dNil))))
theorem pure_period : Pure 1 sp_period T_period := by
  rintro ds S Q E frg ⟨c, rfl, hc, q⟩
  unfold T_period
  walk_at "wp"
  exact ⟨_, rfl, chain_req hc, c, rfl, hc, q⟩
/-! ### compare.py -/
def T_common_multiple : TS2 :=
  (dSeq (dPar 2 3 (dCons (dVar 0) (dCons (dVar 1) dNil)))
  (dSeq (dWhile (dTru (dVar 3)) (dPar 2 3 (dCons (dVar 3) (dCons (dOp qMod (dVar 2) (dVar 3)) dNil))))
  (dRet (dOp qFdiv (dOp qMul (dVar 0) (dVar 1)) (dVar 2)))))
theorem cdiv_of {i j : Int} (h : 0 < j) (h2 : j ≤ 10 ^ 18) : CDivW i j := wide_div (b := 64) h (by omega) (by decide) (by decide)
theorem pure_common_multiple : Pure 4 sp_common_multiple T_common_multiple := by
  rintro ds S Q E frg ⟨⟨a, b⟩, rfl, ⟨ha, hb, ha2, hb2⟩, q⟩
  unfold T_common_multiple
  walk_at "wp"
  refine wh_inv (fun (p : Nat × Nat) ds S' => S' = S ∧ ds = [some (.int a), some (.int b), some (.int p.1), some (.int p.2)] ∧ p.1.gcd p.2 = a.natAbs.gcd b.natAbs ∧ 0 < p.1) (fun p => p.2) ?_ (a := (a.natAbs, b.natAbs)) ?_
  · rintro ⟨m, n⟩ ds S' N ⟨rfl, rfl, hg, h0⟩ hN
    walk_at "wp"
    have hg : m.gcd n = a.natAbs.gcd b.natAbs := hg
    have h0 : 0 < m := h0
    refine ite2 (fun h => ?_) (fun h => ?_)
    · have hn : 0 < n := by
        have : (n : Int) ≠ 0 := by simpa using h
        omega
      refine ⟨by omega, hN (n, m % n) _ _ (Nat.mod_lt _ hn) ⟨rfl, by rw [Int.natCast_emod], ?_, hn⟩⟩
      rw [← hg]
      show n.gcd (m % n) = m.gcd n
      rw [Nat.gcd_comm m n, Nat.gcd_rec n m, Nat.gcd_comm]
    · have hn : n = 0 := by
        have : (n : Int) = 0 := by simpa using h
        omega
      subst hn
      rw [Nat.gcd_zero_right] at hg
      have hm : m ≤ a.natAbs := by
        rw [hg]
        exact Nat.gcd_le_left _ (by omega)
      refine ⟨.inl (by omega), cdiv_of (by omega) (by omega), ?_⟩
      have e : a * b / (m : Int) = lcmI a b := by
        have e1 : a = (a.natAbs : Int) := by omega
        have e2 : b = (b.natAbs : Int) := by omega
        unfold lcmI
        rw [Nat.lcm, ← hg]
        rw [Int.natCast_ediv, Int.natCast_mul, ← e1, ← e2]
      rw [e]
      exact q
  · refine ⟨rfl, ?_, rfl, by show 0 < a.natAbs; omega⟩
    have e1 : a = (a.natAbs : Int) := by omega
    have e2 : b = (b.natAbs : Int) := by omega
    show _ = [_, _, some (Dt.int ((a.natAbs : Nat) : Int)), some (Dt.int ((b.natAbs : Nat) : Int))]
    rw [← e1, ← e2]
def T_last_threshold : TS2 :=
  (dRet (dCB qMax2 (dCons (dCall sp_threshold_of (dCons (dVar 0) dNil)) (dCons (dCall sp_threshold_of (dCons (dVar 1) dNil)) dNil))))
theorem max_if (i j : Int) : (if j > i then j else i) = max i j := by
  by_cases h : j > i
  · rw [if_pos h]; omega
  · rw [if_neg h]; omega
theorem min_if (i j : Int) : (if j < i then j else i) = min i j := by
  by_cases h : j < i
  · rw [if_pos h]; omega
  · rw [if_neg h]; omega
theorem pure_last_threshold : Pure 2 sp_last_threshold T_last_threshold := by
  rintro ds S Q E frg ⟨⟨c, d⟩, rfl, ⟨hc, hd⟩, q⟩
  unfold T_last_threshold
  walk_at "wp"
  refine ⟨c, rfl, hc, d, rfl, hd, _, rfl, _, rfl, ?_⟩
  rw [max_if]
  exact q
def T_both_periods : TS2 :=
  (dRet (dCall sp_common_multiple (dCons (dCall sp_period_of (dCons (dVar 0) dNil)) (dCons (dCall sp_period_of (dCons (dVar 1) dNil)) dNil))))
theorem pure_both_periods : Pure 2 sp_both_periods T_both_periods := by
  rintro ds S Q E frg ⟨⟨c, d⟩, rfl, ⟨hc, hd⟩, q⟩
  unfold T_both_periods
  walk_at "wp"
  have hc : okC c := hc
  have hd : okC d := hd
  have h1 := per_pos hc
  have h2 := per_pos hd
  have h3 := per_le hc
  have h4 := per_le hd
  exact ⟨c, rfl, hc, d, rfl, hd, (per c, per d), rfl, ⟨h1, h2, by show per c ≤ _; omega, by show per d ≤ _; omega⟩, q⟩
def T_bound_for : TS2 :=
  (dRet (dOp qAdd (dCall sp_last_threshold (dCons (dVar 0) (dCons (dVar 1) dNil))) (dOp qMul (dC (.int 3)) (dCall sp_both_periods (dCons (dVar 0) (dCons (dVar 1) dNil))))))
theorem pure_bound_for : Pure 2 sp_bound_for T_bound_for := by
  rintro ds S Q E frg ⟨⟨c, d⟩, rfl, ⟨hc, hd⟩, q⟩
  unfold T_bound_for
  walk_at "wp"
  exact ⟨(c, d), rfl, ⟨hc, hd⟩, (c, d), rfl, ⟨hc, hd⟩, _, rfl, .inl (by omega), _, rfl, q⟩
def T_require_both : TS2 :=
  (dSeq (dDrop (dCall sp_require_chain (dCons (dVar 0) dNil)))
  (dDrop (dCall sp_require_chain (dCons (dVar 1) dNil))))
theorem pure_require_both : Pure 2 sp_require_both T_require_both := by
  rintro ds S Q E frg ⟨⟨c, d⟩, rfl, ⟨hc, hd⟩, q⟩
  unfold T_require_both
  walk_at "wp"
  exact ⟨_, rfl, chain_req hc, _, rfl, chain_req hd, q⟩
def T_compare_bound : TS2 :=
  (dSeq (dDrop (dCall sp_require_both (dCons (dVar 0) (dCons (dVar 1) dNil))))
  (dRet (dCall sp_bound_for (dCons (dVar 0) (dCons (dVar 1) dNil)))))
theorem pure_compare_bound : Pure 2 sp_compare_bound T_compare_bound := by
  rintro ds S Q E frg ⟨⟨c, d⟩, rfl, h, q⟩
  unfold T_compare_bound
  walk_at "wp"
  exact ⟨(c, d), rfl, h, (c, d), rfl, h, q⟩
end Sc

namespace Sc
open PySem PySem.Spec PyProof.Rows L2 Sm
local macro_rules | `(tactic| walk_at "wp") => `(tactic| simp only [dRet, dSeq, dIfS, dNext, dDrop, dSet, dAsg, dPar, dPar3, dAug, dVar, dC, dOp, dUn, dTest, dTru, dNot, dAnd, dOr, dAndV, dOrV, dNotV, dIf, dChain, dCall, dCons, dNil, dCB, dTup, dLst, dIsi, dStore, kSub, dYes, dFor, dIt, dItL, dRng1, dRng2, dSl, dNoP, dPart, dMt, dRaise,
  qI, qI0, qAdd, qSub, qMul, qFdiv, qFdivN, qMod, qPow, qLt, qLe, qGt, qGe, qEq, qNe, qIsN, qNotN, qIsB, qNotB, qNeg, qAbs, qMax2, qMin2, qLen, qIx, qTupOf, qLstOf, qSlT, qSlL, qCatT, qRepT, kName, kTup, kCons, kNil, start2, List.map_cons, List.map_nil, List.length_cons, List.length_nil, List.replicate, List.cons_append, List.nil_append, List.append_nil,
  List.getElem?_cons_zero, List.getElem?_cons_succ, List.set_cons_zero, List.set_cons_succ, Option.some.injEq, exists_eq_left', exists_eq_left, Dt.int.injEq, Dt.bl.injEq, Dt.ref.injEq, Dt.tup.injEq, Dt.lst.injEq, Nat.sub_zero, Nat.zero_add, Nat.reduceAdd, Nat.reduceSub, asQ_tup, asQ_lst, asL_lst, asT_tup, asQ_put, asL_put, exists_and_left, List.cons.injEq, and_true, isN_int, isN_non, truD_int, truD_non, at_0, at_1, at_2, ix20, ix21, Cells.put_same, Cells.put_put, Cell.lst.injEq, sEq_ii, sEq_bb, sEq_ss, sEq_nn, sEq_ni, sEq_in, true_and, decide_eq_true_eq, and_assoc])
/-! ### the law's draws -/
def T__law_bag : TS2 :=
  (dSeq (dSet 2 (dC (.int 0)))
  (dSeq (dIfS (dTest (dOp qLt (dVar 1) (dCB qLen (dCons (dVar 0) dNil)))) (dSet 2 (dOp qMod (dOp qIx (dVar 0) (dVar 1)) (dOp qPow (dC (.int 10)) (dC (.int 60))))) dNext)
  (dSeq (dSet 3 (dOp qAdd (dC (.int 1)) (dOp qMod (dOp qAdd (dOp qAdd (dOp qAdd (dOp qMul (dOp qMod (dVar 2) (dC (.int 2147483629))) (dC (.int 16807))) (dOp qMul (dOp qMul (dC (.int 40009)) (dVar 1)) (dVar 1))) (dOp qMul (dC (.int 7919)) (dVar 1))) (dC (.int 1009))) (dC (.int 2147483645)))))
  (dSeq (dIfS (dTest (dOp qLt (dVar 2) (dOp qPow (dC (.int 10)) (dC (.int 18))))) (dRet (dLst (dCons (dC (.int 0)) (dCons (dVar 3) dNil)))) dNext)
  (dRet (dLst (dCons (dVar 2) (dCons (dVar 3) dNil))))))))
theorem pure__law_bag : Pure 4 sp__law_bag T__law_bag := by
  rintro ds S Q E frg ⟨ns, k, rfl, hk0, hk1, q⟩
  unfold T__law_bag
  walk_at "wp"
  have p1 : CPow 10 60 := ⟨by decide, by decide, by decide⟩
  have p2 : CPow 10 18 := ⟨by decide, by decide, by decide⟩
  refine ite2 (fun h => ?_) (fun h => ?_)
  · obtain ⟨a, h1, h2, _⟩ := at_get hk0 h
    obtain ⟨i, _, rfl⟩ := List.mem_map.mp h2
    refine ⟨_, h1, p1, i, rfl, by decide, by decide, .inr (by omega), .inl (by omega), .inr (by omega), .inl (by omega), by decide, p2, ?_⟩
    exact ite2 (fun _ => ⟨by decide, .inr fun p hp => q p _ _ hp⟩) (fun _ => ⟨by decide, .inr fun p hp => q p _ _ hp⟩)
  · refine ⟨by decide, .inr (by omega), .inl (by omega), .inr (by omega), .inl (by omega), by decide, p2, ?_⟩
    exact ite2 (fun _ => ⟨by decide, .inr fun p hp => q p _ _ hp⟩) (fun _ => ⟨by decide, .inr fun p hp => q p _ _ hp⟩)
def T__law_take : TS2 :=
  (dSeq (dIfS (dTest (dOp qGt (dOp qIx (dVar 0) (dC (.int 0))) (dC (.int 0)))) (dSeq (dSet 2 (dOp qMod (dOp qIx (dVar 0) (dC (.int 0))) (dVar 1)))
  (dSeq (dStore (dOp qFdiv (dOp qIx (dVar 0) (dC (.int 0))) (dVar 1)) (dVar 0) (dC (.int 0)))
  (dRet (dVar 2)))) dNext)
  (dSeq (dStore (dOp qMod (dOp qMul (dOp qIx (dVar 0) (dC (.int 1))) (dC (.int 48271))) (dC (.int 2147483647))) (dVar 0) (dC (.int 1)))
  (dRet (dOp qMod (dOp qFdiv (dOp qMod (dOp qMul (dOp qFdiv (dOp qIx (dVar 0) (dC (.int 1))) (dC (.int 13))) (dOp qAdd (dOp qMod (dOp qIx (dVar 0) (dC (.int 1))) (dC (.int 32749))) (dC (.int 17)))) (dC (.int 2147483629))) (dC (.int 32))) (dVar 1)))))
theorem pure__law_take : Pure 3 sp__law_take T__law_take := by
  rintro ds S Q E frg ⟨b, n, rfl, ⟨c, s, hb⟩, ⟨hn, hn2⟩, q⟩
  unfold T__law_take
  walk_at "wp"
  simp only [asQ_ref hb, hb]
  walk_at "wp"
  have d1 : CDivW c n := cdiv_of hn (by omega)
  have q : ∀ (r c s : Int), 0 ≤ r ∧ r < n → Q (Dt.int r) (S.put b (Cell.lst [Dt.int c, Dt.int s])) := q
  refine ite2 (fun h => ?_) (fun h => ?_)
  · exact ⟨hn, d1, q _ _ _ ⟨Int.emod_nonneg _ (by omega), Int.emod_lt_of_pos _ hn⟩⟩
  · exact ⟨.inr (by omega), by decide, cdiv_of (by decide) (by decide), by decide, .inr (by omega), by decide, cdiv_of (by decide) (by decide), hn, q _ _ _ ⟨Int.emod_nonneg _ (by omega), Int.emod_lt_of_pos _ hn⟩⟩
def T__law_of : TS2 :=
  (dRet (dOp qIx (dVar 1) (dCall sp__law_take (dCons (dVar 0) (dCons (dCB qLen (dCons (dVar 1) dNil)) dNil)))))
theorem pure__law_of : Pure 2 sp__law_of T__law_of := by
  rintro ds S Q E frg ⟨b, l, rfl, hb, ⟨h1, h2⟩, q⟩
  unfold T__law_of
  walk_at "wp"
  refine ⟨b, (l.length : Int), rfl, hb, ⟨by omega, by omega⟩, fun r c s ⟨h3, h4⟩ => ?_⟩
  obtain ⟨a, k1, k2, _⟩ := at_get h3 h4
  exact ⟨_, rfl, _, k1, q a c s k2⟩
def T__law_bound : TS2 :=
  (dRet (dCall sp__law_of (dCons (dVar 0) (dCons (dLst (dCons (dC .non) (dCons (dC .non) (dCons (dC (.int 0)) (dCons (dC (.int 1)) (dCons (dUn qNeg (dC (.int 1))) (dCons (dCall sp__law_take (dCons (dVar 0) (dCons (dOp qAdd (dVar 1) (dC (.int 1))) dNil))) (dCons (dOp qSub (dC (.int 0)) (dCall sp__law_take (dCons (dVar 0) (dCons (dOp qAdd (dVar 1) (dC (.int 1))) dNil)))) dNil)))))))) dNil))))
theorem pure__law_bound : Pure 2 sp__law_bound T__law_bound := by
  rintro ds S Q E frg ⟨b, w, rfl, hb, ⟨h1, h2⟩, q⟩
  unfold T__law_bound
  walk_at "wp"
  refine ⟨b, w + 1, rfl, hb, ⟨by omega, by omega⟩, fun r c s ⟨h3, h4⟩ => ?_⟩
  refine ⟨b, w + 1, rfl, Bag.put, ⟨by omega, by omega⟩, fun r2 c2 s2 ⟨h5, h6⟩ => ⟨_, rfl, ?_⟩⟩
  refine ⟨by decide, .inl ⟨b, _, rfl, Bag.put, ⟨by show 0 < 7; decide, by show 7 ≤ 100000; decide⟩, fun d c3 s3 hd => ?_⟩⟩
  rw [Cells.put_put, Cells.put_put]
  have q : ∀ (r : Option Int) (c s : Int), inW w r → Q (dO r) (S.put b (Cell.lst [Dt.int c, Dt.int s])) := q
  have num : ∀ i : Int, -w ≤ i ∧ i ≤ w → Q (.int i) (S.put b (Cell.lst [Dt.int c3, Dt.int s3])) := fun i hi => q (some i) c3 s3 fun j hj => by
    cases hj
    exact hi
  simp only [List.mem_cons, List.not_mem_nil, or_false] at hd
  rcases hd with rfl | rfl | rfl | rfl | rfl | rfl | rfl
  · exact q none c3 s3 fun j hj => nomatch hj
  · exact q none c3 s3 fun j hj => nomatch hj
  · exact num 0 (by omega)
  · exact num 1 (by omega)
  · exact num (-1) (by omega)
  · exact num r (by omega)
  · exact num (0 - r2) (by omega)
def T__law_slice : TS2 :=
  (dRet (dTup (dCons (dCall sp__law_bound (dCons (dVar 0) (dCons (dVar 1) dNil))) (dCons (dCall sp__law_bound (dCons (dVar 0) (dCons (dVar 1) dNil))) (dCons (dCall sp__law_of (dCons (dVar 0) (dCons (dLst (dCons (dC (.int 1)) (dCons (dC (.int 1)) (dCons (dC (.int 2)) (dCons (dUn qNeg (dC (.int 1))) (dCons (dUn qNeg (dC (.int 2))) (dCons (dC (.int 3)) (dCons (dUn qNeg (dC (.int 3))) dNil)))))))) dNil))) dNil)))))
theorem pure__law_slice : Pure 2 sp__law_slice T__law_slice := by
  rintro ds S Q E frg ⟨b, w, rfl, hb, hw, q⟩
  unfold T__law_slice
  walk_at "wp"
  refine ⟨b, w, rfl, hb, hw, fun r c s h1 => ?_⟩
  refine ⟨b, w, rfl, Bag.put, hw, fun r2 c2 s2 h2 => ?_⟩
  refine ⟨by decide, .inl ⟨b, _, rfl, Bag.put, ⟨by decide, by decide⟩, fun d c3 s3 hd => ⟨by decide, ?_⟩⟩⟩
  rw [Cells.put_put, Cells.put_put]
  have q : ∀ (r : Sl) (c s : Int), slW w r → Q (dS r) (S.put b (Cell.lst [Dt.int c, Dt.int s])) := q
  have num : ∀ i : Int, -3 ≤ i ∧ i ≤ 3 ∧ i ≠ 0 → Q (.tup [dO r, dO r2, .int i]) (S.put b (Cell.lst [Dt.int c3, Dt.int s3])) := fun i hi => q (r, r2, i) c3 s3 ⟨h1, h2, hi.1, hi.2.1, hi.2.2⟩
  simp only [List.mem_cons, List.not_mem_nil, or_false] at hd
  rcases hd with rfl | rfl | rfl | rfl | rfl | rfl | rfl <;> exact num _ (by decide)
def T__law_chain : TS2 :=
  (dRet (dCB qTupOf (dCons (dLc (dRng1 (dCall sp__law_take (dCons (dVar 0) (dCons (dOp qAdd (dVar 1) (dC (.int 1))) dNil)))) (kName 3) dYes (dCall sp__law_slice (dCons (dVar 0) (dCons (dVar 2) dNil)))) dNil)))
/-- a comprehension over range(a draw) -/
theorem pure__law_chain : Pure 4 sp__law_chain T__law_chain := by
  rintro ds S Q E frg ⟨b, ⟨m, w⟩, rfl, hb, ⟨h1, h2, hw⟩, q⟩
  have h1 : 0 ≤ m := h1
  have h2 : m ≤ 100 := h2
  unfold T__law_chain
  walk_at "wp"
  unfold dLc
  walk_at "wp"
  refine ⟨b, m + 1, rfl, hb, ⟨by omega, by omega⟩, fun r c s ⟨h3, h4⟩ => ⟨_, rfl, by omega, by omega, ?_⟩⟩
  refine bag_comp dS (slW w) (b := b) Bag.put (by rw [rng_len]; omega) (fun d hd S R hb2 r2 => ?_) (fun l c2 s2 hl hg => ⟨_, rfl, ?_⟩)
  · walk_at "wp"
    exact ⟨b, w, rfl, hb2, hw, r2⟩
  · rw [Cells.put_put]
    refine q l c2 s2 ⟨?_, hg⟩
    rw [hl, rng_len]
    show ((r.toNat : Nat) : Int) ≤ m
    omega
def T__law_part : TS2 :=
  (dSeq (dAsg (dVar 0) (kTup 3 (kCons (kName 2) (kCons (kName 3) (kCons (kName 4) kNil)))))
  (dSeq (dIfS (dTest (dOp qGt (dVar 4) (dC (.int 0)))) (dSeq (dSet 5 (dIf (dTest (dOp qIsN (dVar 2) (dC .non))) (dC (.int 0)) (dIf (dTest (dOp qLt (dVar 2) (dC (.int 0)))) (dCB qMax2 (dCons (dC (.int 0)) (dCons (dOp qAdd (dVar 2) (dVar 1)) dNil))) (dCB qMin2 (dCons (dVar 2) (dCons (dVar 1) dNil))))))
  (dSeq (dSet 6 (dIf (dTest (dOp qIsN (dVar 3) (dC .non))) (dVar 1) (dIf (dTest (dOp qLt (dVar 3) (dC (.int 0)))) (dCB qMax2 (dCons (dC (.int 0)) (dCons (dOp qAdd (dVar 3) (dVar 1)) dNil))) (dCB qMin2 (dCons (dVar 3) (dCons (dVar 1) dNil))))))
  (dRet (dTup (dCons (dVar 5) (dCons (dOp qFdiv (dOp qSub (dOp qAdd (dCB qMax2 (dCons (dC (.int 0)) (dCons (dOp qSub (dVar 6) (dVar 5)) dNil))) (dVar 4)) (dC (.int 1))) (dVar 4)) dNil)))))) dNext)
  (dSeq (dSet 5 (dIf (dTest (dOp qIsN (dVar 2) (dC .non))) (dOp qSub (dVar 1) (dC (.int 1))) (dIf (dTest (dOp qLt (dVar 2) (dC (.int 0)))) (dCB qMax2 (dCons (dUn qNeg (dC (.int 1))) (dCons (dOp qAdd (dVar 2) (dVar 1)) dNil))) (dCB qMin2 (dCons (dVar 2) (dCons (dOp qSub (dVar 1) (dC (.int 1))) dNil))))))
  (dSeq (dSet 6 (dIf (dTest (dOp qIsN (dVar 3) (dC .non))) (dUn qNeg (dC (.int 1))) (dIf (dTest (dOp qLt (dVar 3) (dC (.int 0)))) (dCB qMax2 (dCons (dUn qNeg (dC (.int 1))) (dCons (dOp qAdd (dVar 3) (dVar 1)) dNil))) (dCB qMin2 (dCons (dVar 3) (dCons (dOp qSub (dVar 1) (dC (.int 1))) dNil))))))
  (dRet (dTup (dCons (dVar 5) (dCons (dOp qFdiv (dOp qSub (dOp qAdd (dCB qMax2 (dCons (dC (.int 0)) (dCons (dOp qSub (dVar 5) (dVar 6)) dNil))) (dCB qAbs (dCons (dVar 4) dNil))) (dC (.int 1))) (dCB qAbs (dCons (dVar 4) dNil))) dNil))))))))
theorem pure__law_part : Pure 7 sp__law_part T__law_part := by
  rintro ds S Q E frg ⟨⟨⟨a, b, t⟩, c⟩, rfl, ⟨hs, hc⟩, q⟩
  have hc : 0 ≤ c := hc
  have ht := hs.2.2
  have ht : -3 ≤ t ∧ t ≤ 3 ∧ t ≠ 0 := ht
  have q : Q (.tup [.int (endsOf (a, b, t) c).1, .int (manyOf (a, b, t) c)]) S := q
  unfold T__law_part
  simp only [dS_eq]
  by_cases h0 : 0 < t
  · rw [ends_pos h0, many_pos h0, ← div_max h0] at q
    cases a <;> cases b <;> (simp only [dO, begP, endP, moved_pos hc] at q ⊢; walk_at "wp"; rw [if_pos h0]; simp only [max_if, min_if, Bool.false_eq_true, if_true, if_false])
    · exact ⟨cdiv_of h0 (by omega), by decide, q⟩
    · split <;> rename_i h <;> simp only [h, if_true, if_false] at q <;> exact ⟨cdiv_of h0 (by omega), by decide, q⟩
    · split <;> rename_i h <;> simp only [h, if_true, if_false] at q <;> exact ⟨cdiv_of h0 (by omega), by decide, q⟩
    · split <;> split <;> rename_i h h' <;> simp only [h, h', if_true, if_false] at q <;> exact ⟨cdiv_of h0 (by omega), by decide, q⟩
  · have hn : 0 < -t := by omega
    have ea : (t.natAbs : Int) = -t := by omega
    have e4 : begN a c - endN b c - t - 1 = begN a c - endN b c + -t - 1 := by omega
    rw [ends_neg h0, many_neg h0, e4, ← div_max hn] at q
    cases a <;> cases b <;> (simp only [dO, begN, endN, moved_neg hc] at q ⊢; walk_at "wp"; rw [if_neg h0]; simp only [max_if, min_if, abs_int, ea, Bool.false_eq_true, if_true, if_false])
    · exact ⟨cdiv_of hn (by omega), by decide, q⟩
    · split <;> rename_i h <;> simp only [h, if_true, if_false] at q <;> exact ⟨cdiv_of hn (by omega), by decide, q⟩
    · split <;> rename_i h <;> simp only [h, if_true, if_false] at q <;> exact ⟨cdiv_of hn (by omega), by decide, q⟩
    · split <;> split <;> rename_i h h' <;> simp only [h, h', if_true, if_false] at q <;> exact ⟨cdiv_of hn (by omega), by decide, q⟩
end Sc

namespace Sc
open PySem PySem.Spec PyProof.Rows L2 Sm
local macro_rules | `(tactic| walk_at "wp") => `(tactic| simp only [dRet, dSeq, dIfS, dNext, dDrop, dSet, dAsg, dPar, dPar3, dAug, dVar, dC, dOp, dUn, dTest, dTru, dNot, dAnd, dOr, dAndV, dOrV, dNotV, dIf, dChain, dCall, dCons, dNil, dCB, dTup, dLst, dIsi, dStore, kSub, dYes, dFor, dIt, dItL, dRng1, dRng2, dSl, dNoP, dPart, dMt, dRaise,
  qI, qI0, qAdd, qSub, qMul, qFdiv, qFdivN, qMod, qPow, qLt, qLe, qGt, qGe, qEq, qNe, qIsN, qNotN, qIsB, qNotB, qNeg, qAbs, qMax2, qMin2, qLen, qIx, qTupOf, qLstOf, qSlT, qSlL, qCatT, qRepT, kName, kTup, kCons, kNil, start2, List.map_cons, List.map_nil, List.length_cons, List.length_nil, List.replicate, List.cons_append, List.nil_append, List.append_nil,
  List.getElem?_cons_zero, List.getElem?_cons_succ, List.set_cons_zero, List.set_cons_succ, Option.some.injEq, exists_eq_left', exists_eq_left, Dt.int.injEq, Dt.bl.injEq, Dt.ref.injEq, Dt.tup.injEq, Dt.lst.injEq, Nat.sub_zero, Nat.zero_add, Nat.reduceAdd, Nat.reduceSub, asQ_tup, asQ_lst, asL_lst, asT_tup, asQ_put, asL_put, exists_and_left, List.cons.injEq, and_true, isN_int, isN_non, truD_int, truD_non, at_0, at_1, at_2, ix20, ix21, Cells.put_same, Cells.put_put, Cell.lst.injEq, sEq_ii, sEq_bb, sEq_ss, sEq_nn, sEq_ni, sEq_in, true_and, decide_eq_true_eq, and_assoc])

def T__law_weights : TS2 :=
  (dSeq (dAsg (dTup (dCons (dC (.int 0)) (dCons (dC (.int 1)) dNil))) (kTup 2 (kCons (kName 1) (kCons (kName 2) kNil))))
  (dSeq (dFor (dIt (dVar 0)) (kTup 3 (kCons (kName 3) (kCons (kName 4) (kCons (kName 5) kNil)))) (dSeq (dSet 1 (dOp qAdd (dVar 1) (dOp qMul (dVar 2) (dOp qAdd (dOp qAdd (dC (.int 1)) (dCB qAbs (dCons (dOrT (dVar 3) (dC (.int 0))) dNil))) (dCB qAbs (dCons (dOrT (dVar 4) (dC (.int 0))) dNil))))))
  (dSet 2 (dOp qMul (dVar 2) (dCB qAbs (dCons (dVar 5) dNil))))))
  (dRet (dTup (dCons (dVar 1) (dCons (dVar 2) dNil))))))

theorem pure__law_weights : Pure 6 sp__law_weights T__law_weights := by
  rintro ds S Q E frg ⟨c, rfl, hc, q⟩
  unfold T__law_weights
  walk_at "wp"
  refine ⟨by decide, _, rfl, ?_⟩
  refine loop_fold dS (fun (b : Int × Int) ds S' => S' = S ∧ ∃ u v w, ds = [some (dCh c), some (.int b.1), some (.int b.2), u, v, w]) (fun p s => (p.1 + p.2 * (1 + absB s.1 + absB s.2.1), p.2 * (s.2.2.natAbs : Int))) (b := (0, 1)) ⟨rfl, _, _, _, rfl⟩ ?_ ?_
  · rintro b s ds S' N hs ⟨rfl, u, v, w, rfl⟩ hN
    rw [dS_eq]
    walk_at "wp"
    refine or0 rfl ?_
    walk_at "wp"
    refine or0 rfl ?_
    walk_at "wp"
    rw [abs_eq, abs_eq, abs_int]
    have o := hc.2 s hs
    have b1 := absB_nn s.1
    have b2 := absB_nn s.2.1
    have b3 := absB_le o.1
    have b4 := absB_le o.2.1
    have h4 := o.2.2
    exact ⟨.inr (by omega), .inr (by omega), hN _ _ ⟨rfl, _, _, _, rfl⟩⟩
  · rintro ds S' ⟨rfl, u, v, w, rfl⟩
    exact ⟨_, rfl, _, rfl, by decide, q⟩
def T__law_multiple : TS2 :=
  (dSeq (dSet 2 (dVar 0))
  (dSeq (dWhile (dTest (dOp qNe (dOp qMod (dVar 2) (dVar 1)) (dC (.int 0)))) (dSet 2 (dOp qAdd (dVar 2) (dVar 0))))
  (dRet (dVar 2))))

theorem lcm_le_of {a b k : Nat} (ha : 0 < a) (hk : 0 < k) (h : a * k % b = 0) : a.lcm b ≤ a * k :=
  Nat.le_of_dvd (Nat.mul_pos ha hk) (Nat.lcm_dvd (Nat.dvd_mul_right a k) (Nat.dvd_of_mod_eq_zero h))
theorem pure__law_multiple : Pure 3 sp__law_multiple T__law_multiple := by
  rintro ds S Q E frg ⟨⟨a, b⟩, rfl, ⟨ha, hb⟩, q⟩
  have ha : 0 < a := ha
  have hb : 0 < b := hb
  obtain ⟨A, rfl⟩ : ∃ A : Nat, a = (A : Int) := ⟨a.natAbs, by omega⟩
  obtain ⟨B, rfl⟩ : ∃ B : Nat, b = (B : Int) := ⟨b.natAbs, by omega⟩
  have hA : 0 < A := by omega
  have hB : 0 < B := by omega
  obtain ⟨L, hL⟩ := Nat.dvd_lcm_left A B
  have q : Q (.int ((A.lcm B : Nat) : Int)) S := q
  unfold T__law_multiple
  walk_at "wp"
  have hL0 : 0 < L := by
    rcases Nat.eq_zero_or_pos L with e | e
    · rw [e, Nat.mul_zero] at hL
      have := Nat.lcm_pos hA hB
      omega
    · exact e
  refine wh_inv (fun (k : Nat) ds S' => S' = S ∧ ds = [some (.int A), some (.int B), some (.int ((A * k : Nat) : Int))] ∧ 0 < k ∧ k ≤ L) (fun k => L - k) ?_ (a := 1) ⟨rfl, by rw [Nat.mul_one], by decide, hL0⟩
  rintro k ds S' N ⟨rfl, rfl, hk, hl⟩ hN
  walk_at "wp"
  refine ⟨by omega, ite2 (fun h => ?_) (fun h => ?_)⟩
  · have h1 : ¬ (A * k) % B = 0 := by
      intro e
      have : ((A * k : Nat) : Int) % (B : Int) = 0 := by rw [← Int.natCast_emod, e]; rfl
      rw [this] at h
      exact absurd h (by decide)
    have h2 : k ≠ L := by
      intro e
      rw [e, ← hL] at h1
      exact h1 (Nat.mod_eq_zero_of_dvd (Nat.dvd_lcm_right A B))
    refine hN (k + 1) _ _ (by omega) ⟨rfl, ?_, by omega, by omega⟩
    rw [Nat.mul_succ, Int.natCast_add]
  · have h1 : (A * k) % B = 0 := by
      have : ((A * k : Nat) : Int) % (B : Int) = 0 := by simpa using h
      rw [← Int.natCast_emod] at this
      omega
    have h2 := lcm_le_of hA hk h1
    have h3 : A * k ≤ A * L := Nat.mul_le_mul_left A hl
    have h4 : A * k = A.lcm B := by omega
    rw [h4]
    exact q
def T__law_limit : TS2 :=
  (dSeq (dPar 2 3 (dCons (dCall sp__law_weights (dCons (dVar 0) dNil)) (dCons (dCall sp__law_weights (dCons (dVar 1) dNil)) dNil)))
  (dRet (dTup (dCons (dCB qMax2 (dCons (dOp qIx (dVar 2) (dC (.int 0))) (dCons (dOp qIx (dVar 3) (dC (.int 0))) dNil))) (dCons (dCall sp__law_multiple (dCons (dOp qIx (dVar 2) (dC (.int 1))) (dCons (dOp qIx (dVar 3) (dC (.int 1))) dNil))) dNil)))))

theorem pure__law_limit : Pure 4 sp__law_limit T__law_limit := by
  rintro ds S Q E frg ⟨⟨c, d⟩, rfl, ⟨hc, hd⟩, q⟩
  unfold T__law_limit
  walk_at "wp"
  have hc : okC c := hc
  have hd : okC d := hd
  refine ⟨c, rfl, hc, d, rfl, hd, ?_⟩
  walk_at "wp"
  refine ⟨(per c, per d), rfl, ⟨per_pos hc, per_pos hd⟩, ?_⟩
  rw [max_if]
  exact ⟨by decide, q⟩
end Sc

namespace Sm
theorem moved_in {b c lo hi : Int} (h : lo ≤ hi) : lo ≤ moved b c lo hi ∧ moved b c lo hi ≤ hi := by
  unfold moved
  omega
theorem begP_in {o : Option Int} {c : Int} (h : 0 ≤ c) : 0 ≤ begP o c ∧ begP o c ≤ c := by
  cases o with
  | none => exact ⟨Int.le_refl _, h⟩
  | some b => exact moved_in h
theorem endP_in {o : Option Int} {c : Int} (h : 0 ≤ c) : 0 ≤ endP o c ∧ endP o c ≤ c := by
  cases o with
  | none => exact ⟨h, Int.le_refl _⟩
  | some b => exact moved_in h
theorem begN_in {o : Option Int} {c : Int} (h : 0 ≤ c) : -1 ≤ begN o c ∧ begN o c ≤ c - 1 := by
  cases o with
  | none => exact ⟨by show -1 ≤ c - 1; omega, Int.le_refl _⟩
  | some b => exact moved_in (by omega)
theorem endN_in {o : Option Int} {c : Int} (h : 0 ≤ c) : -1 ≤ endN o c ∧ endN o c ≤ c - 1 := by
  cases o with
  | none => exact ⟨Int.le_refl _, by show -1 ≤ c - 1; omega⟩
  | some b => exact moved_in (by omega)
theorem ceil_le {x t : Int} (h : 0 < t) : max 0 ((x + t - 1) / t) ≤ max 0 x := by
  by_cases hx : 0 < x
  · have : (x + t - 1) / t < x + 1 := by
      refine Int.ediv_lt_of_lt_mul h ?_
      have : (x - 1) * 1 ≤ (x - 1) * t := Int.mul_le_mul_of_nonneg_left (by omega) (by omega)
      have e : (x + 1) * t = (x - 1) * t + t + t := by rw [Int.add_mul, Int.sub_mul]; omega
      rw [e]
      omega
    omega
  · have : (x + t - 1) / t < 1 := Int.ediv_lt_of_lt_mul h (by omega)
    omega
theorem many_le {s : Sl} {c : Int} (hs : okS s) (h : 0 ≤ c) : manyOf s c ≤ c := by
  obtain ⟨a, b, t⟩ := s
  have ht : t ≠ 0 := hs.2.2.2.2
  by_cases h0 : 0 < t
  · rw [many_pos h0]
    have := ceil_le (x := endP b c - begP a c) h0
    have := begP_in (o := a) h
    have := endP_in (o := b) h
    omega
  · rw [many_neg h0]
    have e : begN a c - endN b c - t - 1 = begN a c - endN b c + (-t) - 1 := by omega
    rw [e]
    have := ceil_le (x := begN a c - endN b c) (t := -t) (by omega)
    have := begN_in (o := a) h
    have := endN_in (o := b) h
    omega
theorem ends_in {s : Sl} {c : Int} (h : 0 ≤ c) : -1 ≤ (endsOf s c).1 ∧ (endsOf s c).1 ≤ c := by
  obtain ⟨a, b, t⟩ := s
  by_cases h0 : 0 < t
  · rw [ends_pos h0]
    have := begP_in (o := a) h
    exact ⟨by show -1 ≤ begP a c; omega, this.2⟩
  · rw [ends_neg h0]
    have := begN_in (o := a) h
    exact ⟨this.1, by show begN a c ≤ c; omega⟩
theorem shownF_cons (s : Sl) (c : List Sl) (p : Pg) : shownF (s :: c) p = shownF c (applied s p) := rfl
theorem shownF_app (c d : List Sl) (p : Pg) : shownF (c ++ d) p = shownF d (shownF c p) := List.foldl_append
theorem shown_app (c d : List Sl) (n : Int) : shown (c ++ d) n = shownF d (shown c n) := List.foldl_append
theorem shownF_count : ∀ (c : List Sl) (p : Pg), (∀ s, s ∈ c → okS s) → 0 ≤ p.2.2 → 0 ≤ (shownF c p).2.2 ∧ (shownF c p).2.2 ≤ p.2.2
  | [], p, _, h => ⟨h, Int.le_refl _⟩
  | s :: c, p, hc, h => by
    have z := shownF_count c (applied s p) (fun s hs => hc s (List.mem_cons_of_mem _ hs)) (many_nn _ _)
    have m : (applied s p).2.2 ≤ p.2.2 := many_le (hc s List.mem_cons_self) h
    rw [shownF_cons]
    omega
theorem okC_app {c d : List Sl} (hc : okC c) (hd : okC d) (h : c.length + d.length ≤ 4) : okC (c ++ d) := by
  refine ⟨by rw [List.length_append]; exact h, fun s hs => ?_⟩
  rcases List.mem_append.mp hs with hs | hs
  · exact hc.2 s hs
  · exact hd.2 s hs
theorem search_congr {p q : Int → Bool} (h : ∀ i, p i = q i) : ∀ (a : Int) (m : Nat), search p a m = search q a m
  | _, 0 => rfl
  | a, m + 1 => by
    unfold search
    rw [h a, search_congr h]
theorem unlike_comm (c d : List Sl) (n : Int) : unlike c d n = unlike d c n := by
  unfold unlike
  rw [decide_eq_decide]
  exact ⟨fun h e => h e.symm, fun h e => h e.symm⟩
theorem bnd_comm (c d : List Sl) : bnd c d = bnd d c := by
  unfold bnd lastT bothP lcmI
  rw [Nat.lcm_comm, Int.max_comm]
theorem firstD_comm (c d : List Sl) : firstD c d = firstD d c := by
  unfold firstD
  rw [bnd_comm c d, search_congr (unlike_comm c d)]
theorem search_succ {p : Int → Bool} {a : Int} {m : Nat} : search p a (m + 1) = if p a = true then some a else search p (a + 1) m := rfl
theorem search_none {p : Int → Bool} : ∀ (a : Int) (m : Nat), search p a m = none ↔ ∀ i, a ≤ i → i < a + m → p i = false
  | a, 0 => ⟨fun _ i h1 h2 => by omega, fun _ => rfl⟩
  | a, m + 1 => by
    unfold search
    by_cases h : p a = true
    · rw [if_pos h]
      refine ⟨fun e => by (cases e), fun z => ?_⟩
      rw [z a (Int.le_refl _) (by omega)] at h
      cases h
    · rw [if_neg h, search_none (a + 1) m]
      refine ⟨fun z i h1 h2 => ?_, fun z i h1 h2 => z i (by omega) (by omega)⟩
      by_cases e : i = a
      · subst e; simpa using h
      · exact z i (by omega) (by omega)
theorem search_some {p : Int → Bool} : ∀ (a : Int) (m : Nat) (i : Int), search p a m = some i → a ≤ i ∧ i < a + m ∧ p i = true ∧ ∀ j, a ≤ j → j < i → p j = false
  | a, 0, i, e => by cases e
  | a, m + 1, i, e => by
    unfold search at e
    by_cases h : p a = true
    · rw [if_pos h] at e
      cases e
      exact ⟨Int.le_refl _, by omega, h, fun j h1 h2 => by omega⟩
    · rw [if_neg h] at e
      obtain ⟨h1, h2, h3, h4⟩ := search_some (a + 1) m i e
      refine ⟨by omega, by omega, h3, fun j k1 k2 => ?_⟩
      by_cases e : j = a
      · subst e; simpa using h
      · exact h4 j (by omega) k2
theorem firstD_self (c : List Sl) : firstD c c = none := by
  unfold firstD
  rw [search_none]
  intro i _ _
  unfold unlike
  simp
end Sm

namespace Sc
open PySem PySem.Spec PyProof.Rows L2 Sm
local macro_rules | `(tactic| walk_at "wp") => `(tactic| simp only [dRet, dSeq, dIfS, dNext, dDrop, dSet, dAsg, dPar, dPar3, dAug, dVar, dC, dOp, dUn, dTest, dTru, dNot, dAnd, dOr, dAndV, dOrV, dNotV, dIf, dChain, dCall, dCons, dNil, dCB, dTup, dLst, dIsi, dStore, kSub, dYes, dFor, dIt, dItL, dRng1, dRng2, dSl, dNoP, dPart, dMt, dRaise,
  qI, qI0, qAdd, qSub, qMul, qFdiv, qFdivN, qMod, qPow, qLt, qLe, qGt, qGe, qEq, qNe, qIsN, qNotN, qIsB, qNotB, qNeg, qAbs, qMax2, qMin2, qLen, qIx, qTupOf, qLstOf, qSlT, qSlL, qCatT, qRepT, kName, kTup, kCons, kNil, start2, List.map_cons, List.map_nil, List.length_cons, List.length_nil, List.replicate, List.cons_append, List.nil_append, List.append_nil,
  List.getElem?_cons_zero, List.getElem?_cons_succ, List.set_cons_zero, List.set_cons_succ, Option.some.injEq, exists_eq_left', exists_eq_left, Dt.int.injEq, Dt.bl.injEq, Dt.ref.injEq, Dt.tup.injEq, Dt.lst.injEq, Nat.sub_zero, Nat.zero_add, Nat.reduceAdd, Nat.reduceSub, asQ_tup, asQ_lst, asL_lst, asT_tup, asQ_put, asL_put, exists_and_left, List.cons.injEq, and_true, isN_int, isN_non, truD_int, truD_non, at_0, at_1, at_2, ix20, ix21, Cells.put_same, Cells.put_put, Cell.lst.injEq, sEq_ii, sEq_bb, sEq_ss, sEq_nn, sEq_ni, sEq_in, true_and, decide_eq_true_eq, and_assoc])


/-! ### far.py -/
def sp_moved : Sp2 := psp (α := Int × Int × Int × Int) (fun a => [.int a.1, .int a.2.1, .int a.2.2.1, .int a.2.2.2]) (fun _ => True) (fun a => .int (moved a.1 a.2.1 a.2.2.1 a.2.2.2))
def sp_ends : Sp2 := psp (α := Sl × Int) (fun a => [dS a.1, .int a.2]) (fun _ => True) (fun a => .tup [.int (endsOf a.1 a.2).1, .int (endsOf a.1 a.2).2])
def sp_applied : Sp2 := psp (α := Sl × Pg) (fun a => [dS a.1, dPg a.2]) (fun a => okS a.1 ∧ 0 ≤ a.2.2.2 ∧ a.2.2.2 ≤ 10 ^ 18) (fun a => dPg (applied a.1 a.2))
def sp_shown_by : Sp2 := psp (α := List Sl × Int) (fun a => [dCh a.1, .int a.2]) (fun a => (∀ s, s ∈ a.1 → okS s) ∧ 0 ≤ a.2 ∧ a.2 ≤ 10 ^ 18) (fun a => dPg (shown a.1 a.2))
def sp_cleaned : Sp2 := psp (α := Pg) (fun a => [dPg a]) (fun _ => True) (fun a => dCl (cleaned a))
def sp_clean : Sp2 := psp (α := List Sl × Int) (fun a => [dCh a.1, .int a.2]) (fun a => (∀ s, s ∈ a.1 → okS s) ∧ 0 ≤ a.2 ∧ a.2 ≤ 10 ^ 18) (fun a => dCl (clean a.1 a.2))
def sp_agree_at : Sp2 := psp (α := List Sl × List Sl × Int) (fun a => [dCh a.1, dCh a.2.1, .int a.2.2]) (fun a => (∀ s, s ∈ a.1 → okS s) ∧ (∀ s, s ∈ a.2.1 → okS s) ∧ 0 ≤ a.2.2 ∧ a.2.2 ≤ 10 ^ 18) (fun a => .bl (decide (clean a.1 a.2.2 = clean a.2.1 a.2.2)))
def sp_first_difference : Sp2 := psp (α := List Sl × List Sl) (fun a => [dCh a.1, dCh a.2]) (fun a => okC a.1 ∧ okC a.2) (fun a => dO (firstD a.1 a.2))
def sp_are_equal : Sp2 := psp (α := List Sl × List Sl) (fun a => [dCh a.1, dCh a.2]) (fun a => okC a.1 ∧ okC a.2) (fun a => .bl (firstD a.1 a.2).isNone)
def sp_equal : Sp2 := psp (α := List Sl × List Sl) (fun a => [dCh a.1, dCh a.2]) (fun a => okC a.1 ∧ okC a.2) (fun a => .bl (firstD a.1 a.2).isNone)
def sp_difference : Sp2 := psp (α := List Sl × List Sl) (fun a => [dCh a.1, dCh a.2]) (fun a => okC a.1 ∧ okC a.2) (fun a => dO (firstD a.1 a.2))
theorem dPg_eq (p : Pg) : dPg p = .tup [.int p.1, .int p.2.1, .int p.2.2] := rfl
theorem bnd_le {c d : List Sl} (hc : okC c) (hd : okC d) : 0 ≤ bnd c d ∧ bnd c d ≤ 40000 := by
  unfold bnd lastT bothP lcmI
  have h1 := thr_le hc
  have h2 := thr_le hd
  have h3 := thr_nn hc
  have h5 := per_pos hc
  have h6 := per_pos hd
  have h7 := per_le hc
  have h8 := per_le hd
  have z : (per c).natAbs.lcm (per d).natAbs ≤ (per c).natAbs * (per d).natAbs := Nat.le_of_dvd (Nat.mul_pos (by omega) (by omega)) (Nat.lcm_dvd (Nat.dvd_mul_right _ _) (Nat.dvd_mul_left _ _))
  have y : (per c).natAbs * (per d).natAbs ≤ 81 * 81 := Nat.mul_le_mul (by omega) (by omega)
  omega
theorem isN_dO {o : Option Int} : isN (dO o) = o.isNone := by cases o <;> rfl
def T_moved : TS2 :=
  (dSeq (dSet 4 (dIf (dTest (dOp qLt (dVar 0) (dC (.int 0)))) (dOp qAdd (dVar 0) (dVar 1)) (dVar 0)))
  (dRet (dCB qMax2 (dCons (dVar 2) (dCons (dCB qMin2 (dCons (dVar 3) (dCons (dVar 4) dNil))) dNil)))))
theorem pure_moved : Pure 5 sp_moved T_moved := by
  rintro ds S Q E frg ⟨⟨b, c, lo, hi⟩, rfl, -, q⟩
  have q : Q (.int (max lo (min hi (if b < 0 then b + c else b)))) S := q
  unfold T_moved
  walk_at "wp"
  refine ite2 (fun h => ?_) (fun h => ?_)
  · rw [if_pos h] at q
    simp only [max_if, min_if]
    rw [Int.max_comm]
    have e : min hi (b + c) = min hi (b + c) := rfl
    first
      | exact q
      | (rw [Int.max_comm]; exact q)
  · rw [if_neg h] at q
    simp only [max_if, min_if]
    first
      | exact q
      | (rw [Int.max_comm]; exact q)
def T_ends : TS2 :=
  (dSeq (dAsg (dVar 0) (kTup 3 (kCons (kName 2) (kCons (kName 3) (kCons (kName 4) kNil)))))
  (dSeq (dIfS (dTest (dOp qGt (dVar 4) (dC (.int 0)))) (dSeq (dSet 5 (dIf (dTest (dOp qIsN (dVar 2) (dC .non))) (dC (.int 0)) (dCall sp_moved (dCons (dVar 2) (dCons (dVar 1) (dCons (dC (.int 0)) (dCons (dVar 1) dNil)))))))
  (dRet (dTup (dCons (dVar 5) (dCons (dIf (dTest (dOp qIsN (dVar 3) (dC .non))) (dVar 1) (dCall sp_moved (dCons (dVar 3) (dCons (dVar 1) (dCons (dC (.int 0)) (dCons (dVar 1) dNil)))))) dNil))))) dNext)
  (dSeq (dSet 5 (dIf (dTest (dOp qIsN (dVar 2) (dC .non))) (dOp qSub (dVar 1) (dC (.int 1))) (dCall sp_moved (dCons (dVar 2) (dCons (dVar 1) (dCons (dOp qSub (dC (.int 0)) (dC (.int 1))) (dCons (dOp qSub (dVar 1) (dC (.int 1))) dNil)))))))
  (dRet (dTup (dCons (dVar 5) (dCons (dIf (dTest (dOp qIsN (dVar 3) (dC .non))) (dOp qSub (dC (.int 0)) (dC (.int 1))) (dCall sp_moved (dCons (dVar 3) (dCons (dVar 1) (dCons (dOp qSub (dC (.int 0)) (dC (.int 1))) (dCons (dOp qSub (dVar 1) (dC (.int 1))) dNil)))))) dNil)))))))
theorem pure_ends : Pure 6 sp_ends T_ends := by
  rintro ds S Q E frg ⟨⟨⟨a, b, t⟩, c⟩, rfl, -, q⟩
  have q : Q (.tup [.int (endsOf (a, b, t) c).1, .int (endsOf (a, b, t) c).2]) S := q
  unfold T_ends
  simp only [dS_eq]
  by_cases h0 : 0 < t
  · rw [ends_pos h0] at q
    cases a <;> cases b <;> (simp only [dO, begP, endP] at q ⊢; walk_at "wp"; rw [if_pos h0]; simp only [Bool.false_eq_true, if_true, if_false])
    · exact ⟨by decide, q⟩
    · exact ⟨(_, _, _, _), rfl, trivial, by decide, q⟩
    · exact ⟨(_, _, _, _), rfl, trivial, by decide, q⟩
    · exact ⟨(_, _, _, _), rfl, trivial, (_, _, _, _), rfl, trivial, by decide, q⟩
  · rw [ends_neg h0] at q
    cases a <;> cases b <;> (simp only [dO, begN, endN] at q ⊢; walk_at "wp"; rw [if_neg h0]; simp only [Bool.false_eq_true, if_true, if_false])
    · exact ⟨by decide, q⟩
    · exact ⟨(_, _, _, _), rfl, trivial, by decide, q⟩
    · exact ⟨(_, _, _, _), rfl, trivial, by decide, q⟩
    · exact ⟨(_, _, _, _), rfl, trivial, (_, _, _, _), rfl, trivial, by decide, q⟩
def T_applied : TS2 :=
  (dSeq (dAsg (dVar 1) (kTup 3 (kCons (kName 2) (kCons (kName 3) (kCons (kName 4) kNil)))))
  (dSeq (dAsg (dCall sp_ends (dCons (dVar 0) (dCons (dVar 4) dNil))) (kTup 2 (kCons (kName 5) (kCons (kName 6) kNil))))
  (dSeq (dIfS (dTest (dOp qGt (dOp qIx (dVar 0) (dC (.int 2))) (dC (.int 0)))) (dSet 7 (dCB qMax2 (dCons (dC (.int 0)) (dCons (dOp qFdiv (dOp qSub (dOp qAdd (dOp qSub (dVar 6) (dVar 5)) (dOp qIx (dVar 0) (dC (.int 2)))) (dC (.int 1))) (dOp qIx (dVar 0) (dC (.int 2)))) dNil)))) (dSet 7 (dCB qMax2 (dCons (dC (.int 0)) (dCons (dOp qFdiv (dOp qSub (dOp qSub (dOp qSub (dVar 5) (dVar 6)) (dOp qIx (dVar 0) (dC (.int 2)))) (dC (.int 1))) (dOp qSub (dC (.int 0)) (dOp qIx (dVar 0) (dC (.int 2))))) dNil)))))
  (dRet (dTup (dCons (dOp qAdd (dVar 2) (dOp qMul (dVar 3) (dVar 5))) (dCons (dOp qMul (dVar 3) (dOp qIx (dVar 0) (dC (.int 2)))) (dCons (dVar 7) dNil))))))))
theorem pure_applied : Pure 8 sp_applied T_applied := by
  rintro ds S Q E frg ⟨⟨⟨a, b, t⟩, f, s, c⟩, rfl, ⟨hs, hc, hc2⟩, q⟩
  have hc : 0 ≤ c := hc
  have hc2 : c ≤ 10 ^ 18 := hc2
  have ht := hs.2.2
  have ht : -3 ≤ t ∧ t ≤ 3 ∧ t ≠ 0 := ht
  have k := ends_in (s := (a, b, t)) hc
  have q : Q (.tup [.int (f + s * (endsOf (a, b, t) c).1), .int (s * t), .int (manyOf (a, b, t) c)]) S := q
  unfold T_applied
  simp only [dPg_eq]
  walk_at "wp"
  refine ⟨((a, b, t), c), rfl, trivial, ?_⟩
  simp only [dS_eq]
  walk_at "wp"
  have h18 : (10 : Int) ^ 18 < 2 ^ 64 := by decide
  have m1 : CMul s (endsOf (a, b, t) c).1 := .inr ⟨by omega, by omega⟩
  have m2 : CMul s t := .inr ⟨by omega, by omega⟩
  by_cases h0 : 0 < t
  · unfold manyOf at q
    rw [if_pos h0] at q
    rw [if_pos h0]
    simp only [max_if]
    exact ⟨cdiv_of h0 (by omega), m1, m2, by decide, q⟩
  · unfold manyOf at q
    rw [if_neg h0] at q
    rw [if_neg h0]
    have e : (0 : Int) - t = -t := by omega
    simp only [max_if, e]
    exact ⟨cdiv_of (by omega) (by omega), m1, m2, by decide, q⟩
def T_shown_by : TS2 :=
  (dSeq (dSet 2 (dTup (dCons (dC (.int 0)) (dCons (dC (.int 1)) (dCons (dVar 1) dNil)))))
  (dSeq (dFor (dIt (dVar 0)) (kName 3) (dSet 2 (dCall sp_applied (dCons (dVar 3) (dCons (dVar 2) dNil)))))
  (dRet (dVar 2))))
theorem pure_shown_by : Pure 4 sp_shown_by T_shown_by := by
  rintro ds S Q E frg ⟨⟨c, n⟩, rfl, ⟨hc, h0, h1⟩, q⟩
  have h0 : 0 ≤ n := h0
  have h1 : n ≤ 10 ^ 18 := h1
  unfold T_shown_by
  walk_at "wp"
  refine ⟨by decide, _, rfl, ?_⟩
  refine loop_fold dS (fun (p : Pg) ds S' => S' = S ∧ 0 ≤ p.2.2 ∧ p.2.2 ≤ n ∧ ∃ u, ds = [some (dCh c), some (.int n), some (dPg p), u]) (fun p s => applied s p) (b := (0, 1, n)) ⟨rfl, h0, Int.le_refl _, _, rfl⟩ ?_ ?_
  · rintro p s ds S' N hs ⟨rfl, k0, k1, u, rfl⟩ hN
    walk_at "wp"
    exact ⟨(s, p), rfl, ⟨hc s hs, k0, by show p.2.2 ≤ _; omega⟩, hN _ _ ⟨rfl, many_nn _ _, by have := many_le (hc s hs) k0; show manyOf s p.2.2 ≤ n; omega, _, rfl⟩⟩
  · rintro ds S' ⟨rfl, k0, k1, u, rfl⟩
    walk_at "wp"
    exact q
def T_cleaned : TS2 :=
  (dSeq (dAsg (dVar 0) (kTup 3 (kCons (kName 1) (kCons (kName 2) (kCons (kName 3) kNil)))))
  (dRet (dTup (dCons (dIf (dTest (dOp qGt (dVar 3) (dC (.int 0)))) (dVar 1) (dC .non)) (dCons (dIf (dTest (dOp qGt (dVar 3) (dC (.int 1)))) (dVar 2) (dC .non)) (dCons (dVar 3) dNil))))))
theorem pure_cleaned : Pure 4 sp_cleaned T_cleaned := by
  rintro ds S Q E frg ⟨⟨f, s, c⟩, rfl, -, q⟩
  have q : Q (.tup [dO (if c > 0 then some f else none), dO (if c > 1 then some s else none), .int c]) S := q
  unfold T_cleaned
  simp only [dPg_eq]
  walk_at "wp"
  by_cases h : c > 0 <;> by_cases h1 : c > 1 <;> simp only [h, h1, if_true, if_false] at q ⊢ <;> exact ⟨by decide, q⟩
def T_clean : TS2 :=
  (dRet (dCall sp_cleaned (dCons (dCall sp_shown_by (dCons (dVar 0) (dCons (dVar 1) dNil))) dNil)))
theorem pure_clean : Pure 2 sp_clean T_clean := by
  rintro ds S Q E frg ⟨⟨c, n⟩, rfl, h, q⟩
  unfold T_clean
  walk_at "wp"
  exact ⟨(c, n), rfl, h, _, rfl, trivial, q⟩
def T_agree_at : TS2 :=
  (dRet (dOp qEqD (dCall sp_clean (dCons (dVar 0) (dCons (dVar 2) dNil))) (dCall sp_clean (dCons (dVar 1) (dCons (dVar 2) dNil)))))
theorem pure_agree_at : Pure 3 sp_agree_at T_agree_at := by
  rintro ds S Q E frg ⟨⟨c, d, n⟩, rfl, ⟨h1, h2, h3⟩, q⟩
  unfold T_agree_at
  walk_at "wp"
  exact ⟨(c, n), rfl, ⟨h1, h3⟩, (d, n), rfl, ⟨h2, h3⟩, _, DEq.mk (dCl_ok _) (dCl_ok _) dCl_inj.symm, q⟩
def T_first_difference : TS2 :=
  (dSeq (dFor (dRng1 (dCall sp_bound_for (dCons (dVar 0) (dCons (dVar 1) dNil)))) (kName 2) (dIfS (dNot (dTest (dCall sp_agree_at (dCons (dVar 0) (dCons (dVar 1) (dCons (dVar 2) dNil)))))) (dRet (dVar 2)) dNext))
  (dRet (dC .non)))
theorem pure_first_difference : Pure 3 sp_first_difference T_first_difference := by
  rintro ds S Q E frg ⟨⟨c, d⟩, rfl, ⟨hc, hd⟩, q⟩
  have hc : okC c := hc
  have hd : okC d := hd
  have q : Q (dO (search (unlike c d) 0 (bnd c d).toNat)) S := q
  unfold T_first_difference
  walk_at "wp"
  have b := bnd_le hc hd
  refine ⟨(c, d), rfl, ⟨hc, hd⟩, ?_⟩
  walk_at "wp"
  refine ⟨by omega, by omega, ?_⟩
  refine loop_rng (fun i ds S' => S' = S ∧ (∃ u, ds = [some (dCh c), some (dCh d), u]) ∧ search (unlike c d) 0 (bnd c d).toNat = search (unlike c d) (i : Int) ((bnd c d).toNat - i)) ⟨rfl, ⟨_, rfl⟩, rfl⟩ ?_ ?_
  · rintro i ds S' N hi ⟨rfl, ⟨u, rfl⟩, e⟩ hN
    walk_at "wp"
    refine ⟨(c, d, 0 + (i : Int)), rfl, ⟨hc.2, hd.2, by show (0 : Int) ≤ 0 + _; omega, by show 0 + (i : Int) ≤ _; omega⟩, ?_⟩
    have es : (bnd c d).toNat - i = ((bnd c d).toNat - (i + 1)) + 1 := by omega
    rw [es] at e
    rw [search_succ] at e
    rw [Int.zero_add]
    walk_at "wp"
    by_cases h : clean c (i : Int) = clean d (i : Int)
    · have hu : unlike c d (i : Int) = false := by unfold unlike; simp [h]
      rw [hu, if_neg (by decide)] at e
      refine iteN (by simp [h]) (hN _ _ ⟨rfl, ⟨_, rfl⟩, by rw [e]; rfl⟩)
    · have hu : unlike c d (i : Int) = true := by unfold unlike; simp [h]
      rw [hu, if_pos rfl] at e
      rw [e] at q
      exact iteP (by simp [h]) q
  · rintro ds S' ⟨rfl, ⟨u, rfl⟩, e⟩
    walk_at "wp"
    rw [e, Nat.sub_self] at q
    exact q
def T_are_equal : TS2 :=
  (dRet (dOp qIsN (dCall sp_first_difference (dCons (dVar 0) (dCons (dVar 1) dNil))) (dC .non)))
theorem pure_are_equal : Pure 2 sp_are_equal T_are_equal := by
  rintro ds S Q E frg ⟨⟨c, d⟩, rfl, h, q⟩
  unfold T_are_equal
  walk_at "wp"
  refine ⟨(c, d), rfl, h, ?_⟩
  dsimp only
  rw [isN_dO]
  exact q
def T_equal : TS2 :=
  (dSeq (dDrop (dCall sp_require_both (dCons (dVar 0) (dCons (dVar 1) dNil))))
  (dRet (dOp qIsN (dCall sp_first_difference (dCons (dVar 0) (dCons (dVar 1) dNil))) (dC .non))))
theorem pure_equal : Pure 2 sp_equal T_equal := by
  rintro ds S Q E frg ⟨⟨c, d⟩, rfl, h, q⟩
  unfold T_equal
  walk_at "wp"
  refine ⟨(c, d), rfl, h, (c, d), rfl, h, ?_⟩
  dsimp only
  rw [isN_dO]
  exact q
def T_difference : TS2 :=
  (dSeq (dDrop (dCall sp_require_both (dCons (dVar 0) (dCons (dVar 1) dNil))))
  (dRet (dCall sp_first_difference (dCons (dVar 0) (dCons (dVar 1) dNil)))))
theorem pure_difference : Pure 2 sp_difference T_difference := by
  rintro ds S Q E frg ⟨⟨c, d⟩, rfl, h, q⟩
  unfold T_difference
  walk_at "wp"
  exact ⟨(c, d), rfl, h, (c, d), rfl, h, q⟩
def T__law_shown : TS2 :=
  (dSeq (dPar3 2 3 4 (dCons (dC (.int 0)) (dCons (dC (.int 1)) (dCons (dVar 1) dNil))))
  (dSeq (dFor (dIt (dVar 0)) (kName 5) (dSeq (dAsg (dCall sp__law_part (dCons (dVar 5) (dCons (dVar 4) dNil))) (kTup 2 (kCons (kName 6) (kCons (kName 7) kNil))))
  (dPar3 2 3 4 (dCons (dOp qAdd (dVar 2) (dOp qMul (dVar 3) (dVar 6))) (dCons (dOp qMul (dVar 3) (dOp qIx (dVar 5) (dC (.int 2)))) (dCons (dVar 7) dNil))))))
  (dRet (dTup (dCons (dIf (dTest (dOp qGt (dVar 4) (dC (.int 0)))) (dVar 2) (dC .non)) (dCons (dIf (dTest (dOp qGt (dVar 4) (dC (.int 1)))) (dVar 3) (dC .non)) (dCons (dVar 4) dNil)))))))
theorem pure__law_shown : Pure 8 sp__law_shown T__law_shown := by
  rintro ds S Q E frg ⟨⟨c, n⟩, rfl, ⟨hc, h0, h1⟩, q⟩
  have h0 : 0 ≤ n := h0
  have h1 : n ≤ 10 ^ 18 := h1
  have h18 : (10 : Int) ^ 18 < 2 ^ 64 := by decide
  unfold T__law_shown
  walk_at "wp"
  refine ⟨_, rfl, ?_⟩
  refine loop_fold dS (fun (p : Pg) ds S' => S' = S ∧ 0 ≤ p.2.2 ∧ p.2.2 ≤ n ∧ ∃ u v w, ds = [some (dCh c), some (.int n), some (.int p.1), some (.int p.2.1), some (.int p.2.2), u, v, w]) (fun p s => applied s p) (b := (0, 1, n)) ⟨rfl, h0, Int.le_refl _, _, _, _, rfl⟩ ?_ ?_
  · rintro p s ds S' N hs ⟨rfl, k0, k1, u, v, w, rfl⟩ hN
    walk_at "wp"
    refine ⟨(s, p.2.2), rfl, ⟨hc s hs, k0⟩, ?_⟩
    have ht := (hc s hs).2.2
    have k := ends_in (s := s) k0
    simp only [dS_eq]
    walk_at "wp"
    refine ⟨.inr ⟨by omega, by omega⟩, .inr ⟨by omega, by omega⟩, hN _ _ ⟨rfl, many_nn _ _, by have := many_le (hc s hs) k0; show manyOf s p.2.2 ≤ n; omega, _, _, _, rfl⟩⟩
  · rintro ds S' ⟨rfl, k0, k1, u, v, w, rfl⟩
    walk_at "wp"
    have q : Q (.tup [dO (if (shown c n).2.2 > 0 then some (shown c n).1 else none), dO (if (shown c n).2.2 > 1 then some (shown c n).2.1 else none), .int (shown c n).2.2]) S' := q
    have e : List.foldl (fun p s => applied s p) (0, 1, n) c = shown c n := rfl
    rw [e]
    by_cases h : (shown c n).2.2 > 0 <;> by_cases h1 : (shown c n).2.2 > 1 <;> simp only [h, h1, if_true, if_false] at q ⊢ <;> exact ⟨by decide, q⟩
def T__law_unlike : TS2 :=
  (dSeq (dAsg (dCall sp__law_limit (dCons (dVar 0) (dCons (dVar 1) dNil))) (kTup 2 (kCons (kName 2) (kCons (kName 3) kNil))))
  (dSeq (dFor (dRng1 (dOp qAdd (dVar 2) (dOp qMul (dC (.int 3)) (dVar 3)))) (kName 4) (dIfS (dTest (dOp qNeD (dCall sp__law_shown (dCons (dVar 0) (dCons (dVar 4) dNil))) (dCall sp__law_shown (dCons (dVar 1) (dCons (dVar 4) dNil))))) (dRet (dVar 4)) dNext))
  (dRet (dC .non))))
theorem pure__law_unlike : Pure 5 sp__law_unlike T__law_unlike := by
  rintro ds S Q E frg ⟨⟨c, d⟩, rfl, ⟨hc, hd⟩, q⟩
  have hc : okC c := hc
  have hd : okC d := hd
  have q : Q (dO (search (unlike c d) 0 (bnd c d).toNat)) S := q
  unfold T__law_unlike
  walk_at "wp"
  have b := bnd_le hc hd
  refine ⟨(c, d), rfl, ⟨hc, hd⟩, ?_⟩
  walk_at "wp"
  have eb : lastT c d + 3 * bothP c d = bnd c d := rfl
  rw [eb]
  refine ⟨.inl (by omega), by omega, by omega, ?_⟩
  refine loop_rng (fun i ds S' => S' = S ∧ (∃ u v w, ds = [some (dCh c), some (dCh d), u, v, w]) ∧ search (unlike c d) 0 (bnd c d).toNat = search (unlike c d) (i : Int) ((bnd c d).toNat - i)) ⟨rfl, ⟨_, _, _, rfl⟩, rfl⟩ ?_ ?_
  · rintro i ds S' N hi ⟨rfl, ⟨u, v, w, rfl⟩, e⟩ hN
    walk_at "wp"
    refine ⟨(c, 0 + (i : Int)), rfl, ⟨hc.2, by show (0 : Int) ≤ 0 + _; omega, by show 0 + (i : Int) ≤ _; omega⟩, (d, 0 + (i : Int)), rfl, ⟨hd.2, by show (0 : Int) ≤ 0 + _; omega, by show 0 + (i : Int) ≤ _; omega⟩, _, DEq.mk (dCl_ok _) (dCl_ok _) dCl_inj.symm, ?_⟩
    have es : (bnd c d).toNat - i = ((bnd c d).toNat - (i + 1)) + 1 := by omega
    rw [es] at e
    rw [search_succ] at e
    dsimp only
    rw [Int.zero_add]
    refine ⟨_, rfl, ?_⟩
    by_cases h : clean c (i : Int) = clean d (i : Int)
    · have hu : unlike c d (i : Int) = false := by unfold unlike; simp [h]
      rw [hu, if_neg (by decide)] at e
      refine iteN (by simp [h]) (hN _ _ ⟨rfl, ⟨_, _, _, rfl⟩, by rw [e]; rfl⟩)
    · have hu : unlike c d (i : Int) = true := by unfold unlike; simp [h]
      rw [hu, if_pos rfl] at e
      rw [e] at q
      exact iteP (by simp [h]) q
  · rintro ds S' ⟨rfl, ⟨u, v, w, rfl⟩, e⟩
    walk_at "wp"
    rw [e, Nat.sub_self] at q
    exact q
end Sc

namespace Sc
open PySem PySem.Spec PyProof.Rows L2 Sm
section
variable {X : Cx}
/-- two lists that may change, in a row -/
def qCatL : QO := fun d e S Q => ∃ a b ds es, d = .ref a ∧ e = .ref b ∧ S a = some (.lst ds) ∧ S b = some (.lst es) ∧ ds.length + es.length ≤ 100000 ∧ newL (ds ++ es) S Q
theorem o_catL : O2 X (binaryOp .Add) qCatL := ⟨fun d e S Q Q' hq ⟨a, b, ds, es, h1, h2, h3, h4, h5, q⟩ => ⟨a, b, ds, es, h1, h2, h3, h4, h5, newL.mono hq q⟩, _, op_cat, fun d e v u S H Q w r1 r2 ⟨a, b, ds, es, h1, h2, h3, h4, h5, q⟩ => by
  subst h1 h2
  obtain ⟨xs, k1, k2⟩ := w a _ h3
  obtain ⟨ys, k3, k4⟩ := w b _ h4
  exact ⟨a, b, xs, ys, r1, r2, k1, k3, by rw [k2.length, k4.length]; exact size_le h5, fun p hp => newL.run ⟨Same.refl _, w⟩ (k2.app k4) q hp⟩⟩
/-- a list that may change, so many times -/
def qRepL : QO := fun d e S Q => ∃ a ds k, d = .ref a ∧ e = .int k ∧ S a = some (.lst ds) ∧ -1000000 ≤ k ∧ k ≤ 1000000 ∧ ds.length * k.toNat ≤ 100000 ∧ newL (List.replicate k.toNat ds).flatten S Q
theorem o_repL : O2 X (binaryOp .Mult) qRepL := ⟨fun d e S Q Q' hq ⟨a, ds, k, h1, h2, h3, h4, h5, h6, q⟩ => ⟨a, ds, k, h1, h2, h3, h4, h5, h6, newL.mono hq q⟩, _, op_rep, fun d e v u S H Q w r1 r2 ⟨a, ds, k, h1, h2, h3, h4, h5, h6, q⟩ => by
  subst h1 h2
  obtain ⟨xs, k1, k2⟩ := w a _ h3
  exact ⟨a, k, xs, r1, r2, k1, by omega, by omega, by rw [k2.length]; exact size_le h6, fun p hp => newL.run ⟨Same.refl _, w⟩ (k2.rep k.toNat) q hp⟩⟩
end
/-! ### a store that grew from S, the bag at b drawn from -/
structure Ext (S : Cells) (b : Addr) (S' : Cells) : Prop where
  bag : Bag S' b
  use : ∀ Q d, Fg Q → (∀ c s, Q d (S.put b (.lst [.int c, .int s]))) → Q d S'
theorem Ext.base {S : Cells} {b : Addr} (h : Bag S b) : Ext S b S := ⟨h, fun Q d _ q => by
  obtain ⟨c, s, e⟩ := h
  have := q c s
  rw [put_self e] at this
  exact this⟩
theorem Ext.draw {S S' : Cells} {b : Addr} {c s : Int} (h : Ext S b S') : Ext S b (S'.put b (.lst [.int c, .int s])) := ⟨Bag.put, fun Q d frg q => by
  refine h.use (fun d S'' => Q d (S''.put b (.lst [.int c, .int s]))) d (fun d S2 p k hp q2 => ?_) (fun c2 s2 => by rw [Cells.put_put]; exact q c s)
  show Q d ((S2.put p k).put b (.lst [.int c, .int s]))
  by_cases e : p = b
  · rw [e, Cells.put_put]
    exact q2
  · have z := frg d (S2.put b (.lst [.int c, .int s])) p k (by rw [Cells.put_ne e]; exact hp) q2
    rw [put_comm e]
    exact z⟩
theorem Ext.fresh {S S' : Cells} {b p : Addr} {k : Cell} (h : Ext S b S') (hp : S' p = none) : Ext S b (S'.put p k) := by
  obtain ⟨c, s, e⟩ := h.bag
  exact ⟨⟨c, s, by rw [Cells.put_ne (Cells.ne_new e hp)]; exact e⟩, fun Q d frg q => frg d S' p k hp (h.use Q d frg q)⟩
end Sc

namespace Sc
open PySem PySem.Spec PyProof.Rows L2 Sm
/-! ### in, not in: flat data -/
def flD : Dt → Bool
  | .non | .int _ | .str _ => true
  | _ => false
def toV : Dt → V
  | .int i => .int i
  | .str x => .str x
  | _ => .non
theorem flD_v {K : PySem.W.Frag} {I : Hp} {d : Dt} {v : V} (h : flD d = true) (r : Rp K I d v) : v = toV d ∧ flatV v = true := by
  cases d <;> (try (cases (show false = true from h))) <;> (simp only [Rp] at r; subst r; exact ⟨rfl, rfl⟩)
theorem flD_vs {K : PySem.W.Frag} {I : Hp} : ∀ {ds : List Dt} {vs : List V}, ds.all flD = true → Rps K I ds vs → vs = ds.map toV ∧ vs.all flatV = true
  | [], vs, _, r => by cases (show vs = [] from r); exact ⟨rfl, rfl⟩
  | d :: ds, vs, h, r => by
    obtain ⟨v, us, e, h1, h2⟩ := r
    rw [List.all_cons, Bool.and_eq_true] at h
    obtain ⟨a1, a2⟩ := flD_v h.1 h1
    obtain ⟨b1, b2⟩ := flD_vs h.2 h2
    subst e
    refine ⟨by rw [a1, b1]; rfl, by rw [List.all_cons, a2, b2]; rfl⟩
section
variable {X : Cx}
def isIn (d : Dt) (es : List Dt) : Bool := inV (toV d) (es.map toV)
def qIn : QO := fun d e S Q => ∃ es, asQ S e = some es ∧ flD d = true ∧ es.all flD = true ∧ Q (.bl (isIn d es)) S
def qNotIn : QO := fun d e S Q => ∃ es, asQ S e = some es ∧ flD d = true ∧ es.all flD = true ∧ Q (.bl (!isIn d es)) S
theorem o_in : O2 X (compareOp .In) qIn := ⟨fun d e S Q Q' hq ⟨es, h1, h2, h3, q⟩ => ⟨es, h1, h2, h3, hq _ _ q⟩, _, op_in_seq, fun d e v u S H Q w r1 r2 ⟨es, h1, h2, h3, q⟩ => by
  obtain ⟨a, xs, e1, k1, k2⟩ := asQ_ok w r2 h1
  obtain ⟨a1, a2⟩ := flD_v h2 r1
  obtain ⟨b1, b2⟩ := flD_vs h3 k2
  refine ⟨a, xs, e1, k1, a2, b2, ?_⟩
  rw [a1, b1]
  exact q _ H ⟨Same.refl _, w⟩ rfl⟩
theorem o_notin : O2 X (compareOp .NotIn) qNotIn := ⟨fun d e S Q Q' hq ⟨es, h1, h2, h3, q⟩ => ⟨es, h1, h2, h3, hq _ _ q⟩, _, op_notIn_seq, fun d e v u S H Q w r1 r2 ⟨es, h1, h2, h3, q⟩ => by
  obtain ⟨a, xs, e1, k1, k2⟩ := asQ_ok w r2 h1
  obtain ⟨a1, a2⟩ := flD_v h2 r1
  obtain ⟨b1, b2⟩ := flD_vs h3 k2
  refine ⟨a, xs, e1, k1, a2, b2, ?_⟩
  rw [a1, b1]
  exact q _ H ⟨Same.refl _, w⟩ rfl⟩
end
end Sc
namespace Sc
open PySem PySem.Spec PyProof.Rows L2 Sm
/-- a comprehension whose elements change nothing; its list may change later -/
theorem comp_mapN {G : TG2} {Te : TE2} {p : Addr} {ds : Ds} {Q : QE} (g : Dt → Dt) : ∀ (items acc : List Dt) (S : Cells), acc.length + items.length < 100000 →
    (∀ d, d ∈ items → ∀ (S : Cells) (R : QE), R (g d) S → G d ds S fun ds2 S2 => Te x0 ds2 S2 R) → Q (.ref p) (S.put p (.lst (acc ++ items.map g))) → dComp G dYes Te p ds Q items acc (S.put p (.lst acc))
  | [], acc, S, _, h, q => ⟨Cells.put_same, .inr (by simpa using q)⟩
  | d :: r, acc, S, hl, h, q => by
    have hl' : acc.length + (r.length + 1) < 100000 := hl
    refine h d List.mem_cons_self _ (fun y S4 => S4 p = some (.lst acc) ∧ acc.length < 100000 ∧ dComp G dYes Te p ds Q r (acc ++ [y]) (S4.put p (.lst (acc ++ [y])))) ⟨Cells.put_same, by omega, ?_⟩
    rw [Cells.put_put]
    refine comp_mapN g r (acc ++ [g d]) S (by rw [List.length_append, List.length_singleton]; omega) (fun e he => h e (List.mem_cons_of_mem _ he)) ?_
    simpa using q
theorem comp_new {G : TG2} {Te : TE2} {ds : Ds} {S : Cells} {Q : QE} {items : List Dt} (g : Dt → Dt) (hl : items.length < 100000)
    (h : ∀ d, d ∈ items → ∀ (S : Cells) (R : QE), R (g d) S → G d ds S fun ds2 S2 => Te x0 ds2 S2 R) (q : newL (items.map g) S Q) : ∀ p, S p = none → dComp G dYes Te p ds Q items [] (S.put p (.lst [])) := fun p hp => by
  rcases q with q | q
  · refine comp_map g items [] S (by simpa using hl) h fun c => ?_
    rw [del_put hp]
    simpa using q
  · exact comp_mapN g items [] S (by simpa using hl) h (by simpa using q p hp)
end Sc

namespace Sc
open PySem PySem.Spec PyProof.Rows L2 Sm
theorem rng_rps {K : PySem.W.Frag} {I : Hp} {a b : Int} : Rps K I (rng a (b - a).toNat) (rgV a b) := by
  unfold rng rgV
  generalize List.range (b - a).toNat = l
  induction l with
  | nil => exact rfl
  | cons i l ih => exact ⟨_, _, rfl, rfl, ih⟩
section
variable {X : Cx} {W : WX} {a b e : Expr} {Ta Tb Te : TE2} {pos : Pos}
/-- list(range(n)) -/
def dListR1 (Te : TE2) : TE2 := fun x ds S Q => Te x ds S fun d S1 => ∃ n, d = .int n ∧ -1000000 ≤ n ∧ n ≤ 1000000 ∧ newL (rng 0 n.toNat) S1 Q
theorem e_listR1 {p p2 pos2 : Pos} (hm : X.mg "list" = none) (hm2 : X.mg "range" = none) (he : E2 X W e Te) (hc : X.calm = true := by rfl) (hg : Gl X "list" := by rfl) (hg2 : Gl X "range" := by rfl)
    (n1 : starEach [e] X.env = (false, eval e X.env) :: starEach [] X.env := by rfl) (n2 : starEach [Expr.Call (.Name "range" p2) [e] [] pos2] X.env = (false, eval (Expr.Call (.Name "range" p2) [e] [] pos2) X.env) :: starEach [] X.env := by rfl) :
    E2 X W (.Call (.Name "list" p) [.Call (.Name "range" p2) [e] [] pos2] [] pos) (dListR1 Te) := ⟨fun x ds S Q Q' h p =>
    he.mono x ds S _ _ (fun d S1 ⟨n, e, h1, h2, q⟩ => ⟨n, e, h1, h2, newL.mono h q⟩) p, by
  obtain ⟨t, p, r⟩ := he.run
  refine ⟨_, pe_listRg hc hg hm (prg_1 hg2 hm2 p n1) n2, fun x ds S σ H Q h q => r x ds S σ H _ h (he.mono x ds S _ _ (fun d S1 ⟨n, e, h1, h2, q⟩ v H1 s1 r1 => ?_) q)⟩
  subst e
  cases (show v = _ from r1)
  refine ⟨n, rfl, ⟨by decide, by decide, by omega, by omega, by omega⟩, fun l hl => newL.run s1 ?_ q hl⟩
  have z := rng_rps (K := X.K) (I := wo S1 H1) (a := 0) (b := n)
  rw [Int.sub_zero] at z
  exact z⟩
/-- list(range(a, b)) -/
def dListR2 (Ta Tb : TE2) : TE2 := fun x ds S Q => Ta x ds S fun d S1 => Tb x ds S1 fun e S2 => ∃ i j, d = .int i ∧ e = .int j ∧ (-1000000 ≤ i ∧ i ≤ 1000000 ∧ -1000000 ≤ j ∧ j ≤ 1000000) ∧ newL (rng i (j - i).toNat) S2 Q
theorem e_listR2 {p p2 pos2 : Pos} (hm : X.mg "list" = none) (hm2 : X.mg "range" = none) (ha : E2 X W a Ta) (hb : E2 X W b Tb) (hc : X.calm = true := by rfl) (hg : Gl X "list" := by rfl) (hg2 : Gl X "range" := by rfl)
    (n1 : starEach [a, b] X.env = (false, eval a X.env) :: starEach [b] X.env := by rfl) (n3 : starEach [b] X.env = (false, eval b X.env) :: starEach [] X.env := by rfl) (n4 : (backTo pos2 (starEach [b] X.env)).any (·.1) = false := by rfl)
    (n2 : starEach [Expr.Call (.Name "range" p2) [a, b] [] pos2] X.env = (false, eval (Expr.Call (.Name "range" p2) [a, b] [] pos2) X.env) :: starEach [] X.env := by rfl) :
    E2 X W (.Call (.Name "list" p) [.Call (.Name "range" p2) [a, b] [] pos2] [] pos) (dListR2 Ta Tb) := ⟨fun x ds S Q Q' h p =>
    ha.mono x ds S _ _ (fun d S1 q => hb.mono x ds S1 _ _ (fun e S2 ⟨i, j, e1, e2, h1, q⟩ => ⟨i, j, e1, e2, h1, newL.mono h q⟩) q) p, by
  obtain ⟨t, p, r⟩ := ha.run
  obtain ⟨t', p', r'⟩ := hb.run
  refine ⟨_, pe_listRg hc hg hm (prg_2 hg2 hm2 p p' n1 n3 n4) n2, fun x ds S σ H Q h q => ?_⟩
  refine r x ds S σ H _ h (ha.mono x ds S _ _ (fun d S1 q v H1 s1 r1 => ?_) q)
  refine r' x ds S1 σ H1 _ (h.step s1) (hb.mono x ds S1 _ _ (fun e S2 ⟨i, j, e1, e2, h1, q5⟩ u H2 s2 r2 => ?_) q)
  subst e1 e2
  cases (show v = _ from r1)
  cases (show u = _ from r2)
  exact ⟨i, j, rfl, rfl, ⟨by omega, by omega, by omega, by omega, by omega⟩, fun l hl => newL.run (s1.trans s2) rng_rps q5 hl⟩⟩
end
end Sc

namespace Sc
open PySem PySem.Spec PyProof.Rows L2 Sm
/-- a comprehension with a test, whose elements change nothing -/
theorem comp_filA {G : TG2} {Tt : TT2} {Te : TE2} {p : Addr} {ds : Ds} {Q : QE} (f : Dt → Bool) (g : Dt → Dt) : ∀ (items acc : List Dt) (S : Cells), acc.length + items.length < 100000 →
    (∀ d, d ∈ items → ∀ (S : Cells) (R1 : QE) (R2 : Cells → Prop), (f d = true → R1 (g d) S) → (f d = false → R2 S) → G d ds S fun ds2 S2 => Tt x0 ds2 S2 fun k S3 => if k = true then Te x0 ds2 S3 R1 else R2 S3) →
    ((∀ c, Q (.lst (acc ++ (items.filter f).map g)) ((S.put p c).del p)) ∨ Q (.ref p) (S.put p (.lst (acc ++ (items.filter f).map g)))) → dComp G Tt Te p ds Q items acc (S.put p (.lst acc))
  | [], acc, S, _, h, q => ⟨Cells.put_same, by
    rcases q with q | q
    · exact .inl (by simpa using q _)
    · exact .inr (by simpa using q)⟩
  | d :: r, acc, S, hl, h, q => by
    have hl' : acc.length + (r.length + 1) < 100000 := hl
    refine h d List.mem_cons_self _ (fun y S4 => S4 p = some (.lst acc) ∧ acc.length < 100000 ∧ dComp G Tt Te p ds Q r (acc ++ [y]) (S4.put p (.lst (acc ++ [y])))) (fun S3 => dComp G Tt Te p ds Q r acc S3) (fun k => ⟨Cells.put_same, by omega, ?_⟩) (fun k => ?_)
    · rw [Cells.put_put]
      refine comp_filA f g r (acc ++ [g d]) S (by rw [List.length_append, List.length_singleton]; omega) (fun e he => h e (List.mem_cons_of_mem _ he)) ?_
      rw [List.filter_cons_of_pos k] at q
      rcases q with q | q
      · exact .inl (by simpa using q)
      · exact .inr (by simpa using q)
    · refine comp_filA f g r acc S (by omega) (fun e he => h e (List.mem_cons_of_mem _ he)) ?_
      rw [List.filter_cons_of_neg (by rw [k]; decide)] at q
      exact q
theorem comp_fil {G : TG2} {Tt : TT2} {Te : TE2} {ds : Ds} {S : Cells} {Q : QE} {items : List Dt} (f : Dt → Bool) (g : Dt → Dt) (hl : items.length < 100000)
    (h : ∀ d, d ∈ items → ∀ (S : Cells) (R1 : QE) (R2 : Cells → Prop), (f d = true → R1 (g d) S) → (f d = false → R2 S) → G d ds S fun ds2 S2 => Tt x0 ds2 S2 fun k S3 => if k = true then Te x0 ds2 S3 R1 else R2 S3)
    (q : newL ((items.filter f).map g) S Q) : ∀ p, S p = none → dComp G Tt Te p ds Q items [] (S.put p (.lst [])) := fun p hp => by
  refine comp_filA f g items [] S (by simpa using hl) h ?_
  rcases q with q | q
  · refine .inl fun c => ?_
    rw [del_put hp]
    simpa using q
  · exact .inr (by simpa using q p hp)
end Sc

namespace Sc
open PySem PySem.Spec PyProof.Rows L2 Sm
/-- a promise by a relation -/
def rsp {α β : Type} (enc : α → List Dt) (pre : α → Prop) (post : α → β → Prop) (res : β → Dt) : Sp2 := fun ds S Q _ => ∃ a, ds = enc a ∧ pre a ∧ ∀ r, post a r → Q (res r) S
theorem rsp.mono {α β : Type} {enc : α → List Dt} {pre : α → Prop} {post : α → β → Prop} {res : β → Dt} : (rsp enc pre post res).Mono := ⟨fun ds S Q Q' E E' h _ ⟨a, e, p, q⟩ => ⟨a, e, p, fun r k => h _ _ (q r k)⟩⟩
theorem rsp.len {α β : Type} {enc : α → List Dt} {pre : α → Prop} {post : α → β → Prop} {res : β → Dt} {n : Nat} (h : ∀ a, (enc a).length = n) : ∀ ds S Q E, rsp enc pre post res ds S Q E → ds.length = n := fun ds S Q E ⟨a, e, _, _⟩ => by rw [e]; exact h a
/-- a promise of a new list -/
def lsp {α : Type} (enc : α → List Dt) (pre : α → Prop) (res : α → List Dt) : Sp2 := fun ds S Q _ => ∃ a, ds = enc a ∧ pre a ∧ newL (res a) S Q
theorem lsp.mono {α : Type} {enc : α → List Dt} {pre : α → Prop} {res : α → List Dt} : (lsp enc pre res).Mono := ⟨fun ds S Q Q' E E' h _ ⟨a, e, p, q⟩ => ⟨a, e, p, newL.mono h q⟩⟩
theorem lsp.len {α : Type} {enc : α → List Dt} {pre : α → Prop} {res : α → List Dt} {n : Nat} (h : ∀ a, (enc a).length = n) : ∀ ds S Q E, lsp enc pre res ds S Q E → ds.length = n := fun ds S Q E ⟨a, e, _, _⟩ => by rw [e]; exact h a
/-- the numbers below n at which f holds -/
def filI (f : Int → Bool) (n : Nat) : List Int := ((List.range n).map fun (i : Nat) => (i : Int)).filter f
def dInts (l : List Int) : List Dt := l.map Dt.int
theorem filI_mem {f : Int → Bool} {n : Nat} {k : Int} : k ∈ filI f n ↔ 0 ≤ k ∧ k < n ∧ f k = true := by
  unfold filI
  rw [List.mem_filter, List.mem_map]
  constructor
  · rintro ⟨⟨i, hi, rfl⟩, h⟩
    have := List.mem_range.mp hi
    exact ⟨by omega, by omega, h⟩
  · rintro ⟨h0, h1, h2⟩
    exact ⟨⟨k.toNat, List.mem_range.mpr (by omega), by omega⟩, h2⟩
theorem filI_len {f : Int → Bool} {n : Nat} : (filI f n).length ≤ n := by
  unfold filI
  refine Nat.le_trans (List.length_filter_le _ _) ?_
  simp
theorem filI_nil {f : Int → Bool} {n : Nat} : filI f n = [] ↔ ∀ k : Int, 0 ≤ k → k < n → f k = false := by
  rw [List.eq_nil_iff_forall_not_mem]
  constructor
  · intro h k h0 h1
    cases e : f k with
    | false => rfl
    | true => exact absurd (filI_mem.mpr ⟨h0, h1, e⟩) (h k)
  · intro h k hk
    obtain ⟨h0, h1, h2⟩ := filI_mem.mp hk
    rw [h k h0 h1] at h2
    cases h2
theorem filI_congr {f g : Int → Bool} {n : Nat} (h : ∀ k : Int, 0 ≤ k → k < n → f k = g k) : filI f n = filI g n := by
  unfold filI
  refine List.filter_congr fun k hk => ?_
  obtain ⟨i, hi, rfl⟩ := List.mem_map.mp hk
  have := List.mem_range.mp hi
  exact h _ (by omega) (by omega)
theorem filI_succ {f : Int → Bool} {n : Nat} : filI f (n + 1) = filI f n ++ if f (n : Int) = true then [(n : Int)] else [] := by
  unfold filI
  rw [List.range_succ, List.map_append, List.filter_append, List.map_singleton, List.filter_cons, List.filter_nil]
/-- the first of them -/
theorem filI_head {f : Int → Bool} : ∀ {n : Nat} {k : Int} {l : List Int}, filI f n = k :: l → 0 ≤ k ∧ k < n ∧ f k = true ∧ ∀ j : Int, 0 ≤ j → j < k → f j = false
  | 0, k, l, h => by cases h
  | n + 1, k, l, h => by
    rw [filI_succ] at h
    cases e : filI f n with
    | nil =>
      rw [e, List.nil_append] at h
      by_cases hf : f (n : Int) = true
      · rw [if_pos hf] at h
        obtain ⟨rfl, _⟩ := List.cons.inj h
        exact ⟨by omega, by omega, hf, fun j h0 h1 => filI_nil.mp e j h0 h1⟩
      · rw [if_neg hf] at h
        cases h
    | cons a r =>
      rw [e, List.cons_append] at h
      obtain ⟨rfl, _⟩ := List.cons.inj h
      obtain ⟨h0, h1, h2, h3⟩ := filI_head e
      exact ⟨h0, by omega, h2, h3⟩
/-- a comprehension over range(n) with a test -/
theorem comp_filI {G : TG2} {Tt : TT2} {Te : TE2} {ds : Ds} {S : Cells} {Q : QE} {n : Nat} (f : Int → Bool) (g : Int → Dt) (hl : n < 100000)
    (h : ∀ k : Nat, k < n → ∀ (S : Cells) (R1 : QE) (R2 : Cells → Prop), (f (k : Int) = true → R1 (g (k : Int)) S) → (f (k : Int) = false → R2 S) → G (.int (0 + (k : Int))) ds S fun ds2 S2 => Tt x0 ds2 S2 fun b S3 => if b = true then Te x0 ds2 S3 R1 else R2 S3)
    (q : newL ((filI f n).map g) S Q) : ∀ p, S p = none → dComp G Tt Te p ds Q (rng 0 n) [] (S.put p (.lst [])) := by
  refine comp_fil (fun d => match d with | .int i => f i | _ => false) (fun d => match d with | .int i => g i | d => d) (by rw [rng_len]; exact hl) (fun d hd S R1 R2 y n => ?_) ?_
  · unfold rng at hd
    obtain ⟨i, hi, rfl⟩ := List.mem_map.mp hd
    refine h i (List.mem_range.mp hi) S R1 R2 (fun k => ?_) (fun k => ?_)
    · have e : (0 : Int) + (i : Int) = (i : Int) := Int.zero_add _
      have y' := y
      dsimp only at y'
      rw [e] at y'
      exact y' k
    · have e : (0 : Int) + (i : Int) = (i : Int) := Int.zero_add _
      have n' := n
      dsimp only at n'
      rw [e] at n'
      exact n' k
  · have e : List.map (fun d => match d with | .int i => g i | d => d) (List.filter (fun d => match d with | .int i => f i | _ => false) (rng 0 n)) = (filI f n).map g := by
      unfold rng filI
      rw [List.filter_map, List.filter_map, List.map_map, List.map_map]
      have e2 : ((fun d : Dt => match d with | .int i => f i | _ => false) ∘ fun (i : Nat) => Dt.int (0 + (i : Int))) = (f ∘ fun (i : Nat) => (i : Int)) := by
        funext i
        show f (0 + (i : Int)) = f (i : Int)
        rw [Int.zero_add]
      rw [e2]
      refine List.map_congr_left fun i _ => ?_
      show g (0 + (i : Int)) = g (i : Int)
      rw [Int.zero_add]
    rw [e]
    exact q
/-- a comprehension over range(n) without a test -/
theorem comp_mapI {G : TG2} {Te : TE2} {ds : Ds} {S : Cells} {Q : QE} {n : Nat} (g : Int → Dt) (hl : n < 100000)
    (h : ∀ k : Nat, k < n → ∀ (S : Cells) (R : QE), R (g (k : Int)) S → G (.int (0 + (k : Int))) ds S fun ds2 S2 => Te x0 ds2 S2 R)
    (q : newL ((List.range n).map fun (i : Nat) => g (i : Int)) S Q) : ∀ p, S p = none → dComp G dYes Te p ds Q (rng 0 n) [] (S.put p (.lst [])) := by
  refine comp_new (fun d => match d with | .int i => g i | d => d) (by rw [rng_len]; exact hl) (fun d hd S R r => ?_) ?_
  · unfold rng at hd
    obtain ⟨i, hi, rfl⟩ := List.mem_map.mp hd
    refine h i (List.mem_range.mp hi) S R ?_
    have e : (0 : Int) + (i : Int) = (i : Int) := Int.zero_add _
    dsimp only at r
    rw [e] at r
    exact r
  · have e : (rng 0 n).map (fun d => match d with | .int i => g i | d => d) = (List.range n).map fun (i : Nat) => g (i : Int) := by
      unfold rng
      rw [List.map_map]
      refine List.map_congr_left fun i _ => ?_
      show g (0 + (i : Int)) = g (i : Int)
      rw [Int.zero_add]
    rw [e]
    exact q
/-- the values of g below n -/
def valI (g : Int → Int) (n : Nat) : List Int := (List.range n).map fun (i : Nat) => g (i : Int)
theorem valI_int {g : Int → Int} {n : Nat} : ((List.range n).map fun (i : Nat) => Dt.int (g (i : Int))) = (valI g n).map Dt.int := by
  unfold valI
  rw [List.map_map]
  rfl
theorem valI_len {g : Int → Int} {n : Nat} : (valI g n).length = n := by
  unfold valI
  simp
theorem valI_at {g : Int → Int} {n : Nat} {k : Int} (h0 : 0 ≤ k) (h1 : k < n) : atI ((valI g n).map Dt.int) k = some (.int (g k)) := by
  obtain ⟨a, h, _, e⟩ := at_get (l := (valI g n).map Dt.int) (i := k) h0 (by rw [List.length_map, valI_len]; exact h1)
  rw [h, ← e]
  unfold valI
  rw [List.getElem?_map, List.getElem?_map, List.getElem?_range (by omega)]
  show some (Dt.int (g ((k.toNat : Nat) : Int))) = _
  rw [Int.toNat_of_nonneg h0]
theorem ints_ok (l : List Int) : Ok0 1 (.lst (l.map Dt.int)) := .lst fun d h => by
  obtain ⟨i, _, rfl⟩ := List.mem_map.mp h
  exact .int _ _
theorem map_int_eq : ∀ {l m : List Int}, l.map Dt.int = m.map Dt.int ↔ l = m
  | [], [] => by simp
  | [], _ :: _ => by simp
  | _ :: _, [] => by simp
  | a :: l, b :: m => by simp [map_int_eq]
/-- lists of numbers, the same or not -/
theorem deq_ints {S : Cells} {l m : List Int} : DEq S (.lst (l.map Dt.int)) (.lst (m.map Dt.int)) (decide (l = m)) := DEq.mk (ints_ok l) (ints_ok m) (by
  show l = m ↔ Dt.lst (l.map Dt.int) = Dt.lst (m.map Dt.int)
  rw [Dt.lst.injEq, map_int_eq])
end Sc

/-! enumerate over a tuple; the reversed copy of a tuple -/
namespace Sc
open PySem PySem.Spec PyProof.Rows L2 Sm
theorem meets_enumT {v : Value} {o : Obj} {H : Heap → Prop} (B : Begins v o H) :
    Meets (Builtin.«enumerate.__new__» ⟨[.type "enumerate", v], []⟩) (fun _ R s => H s.heap ∧
      R (.ok (.ret (.ref (s.heap.push o).objs.size))) { s with heap := (s.heap.push o).push { cls := .type "enumerate", data := .fields #[.none, .bool false, .ref s.heap.objs.size, rawInt 0, .none, .none] } }) :=
  .of_wp fun prog w A R s hs => by
    obtain ⟨hp, gg, dd, tk, os⟩ := s
    obtain ⟨hH, hR⟩ := hs
    have sub := sub_enumerate
    have it1 : ∀ {A' : Around} {E Q : Value → Shared → Prop}, Q (.ref hp.objs.size) ⟨hp.push o, gg, dd, tk, os⟩ → wpAny (model prog w) A' (pyIter v) Q E ⟨hp, gg, dd, tk, os⟩ :=
      fun q => B.iter prog w _ _ ⟨hp, gg, dd, tk, os⟩ _ hH q
    wp_walk
    refine wpAny_stack_any fun st => wpAny_pure ?_
    split
    · rename_i cc _ _ _ _ _
      cases (cc == Value.type "enumerate") <;> (wp_walk using it1; exact ⟨_, rfl, hR⟩)
    · wp_walk using it1
      exact ⟨_, rfl, hR⟩
theorem call_enumT {prog : Program} {w : World} {A : Around} {E : Value → Shared → Prop} {s : Shared} {t : Addr} {items : Array Value} {Q : Value → Shared → Prop} (hL : s.heap.IsTuple t items)
    (q : ∀ h', IsEnum h' (s.heap.objs.size + 1) s.heap.objs.size 0 .none → h'.IsTupleIter s.heap.objs.size t 0 → (∀ b ob, s.heap.get? b = some ob → h'.get? b = some ob) → Q (.ref (s.heap.objs.size + 1)) { s with heap := h' }) :
    wpAny (model prog w) A (call (.type "enumerate") [.ref t]) Q E s := by
  refine callType_new F.called_enumerate (by decide) (F.typeCall_enumerate_1 _) (F.newCall_enumerate_1 _) (fun obj => F.args_object_init_2 obj _) F.entry_enumerate_new (meets_enumT (begins_tuple t items)) ⟨hL, ?_⟩
  have sz : (s.heap.push { cls := .type "tuple_iterator", data := .fields #[.ref t, .int 0 0] }).objs.size = s.heap.objs.size + 1 := Heap.size_push ..
  have en := Heap.get?_push_size (s.heap.push { cls := .type "tuple_iterator", data := .fields #[.ref t, .int 0 0] }) (o := { cls := .type "enumerate", data := .fields #[.none, .bool false, .ref s.heap.objs.size, rawInt 0, .none, .none] }) rfl
  show _ ∧ _
  rw [sz] at en ⊢
  exact ⟨⟨_, en, rfl⟩, q _ en ⟨_, Heap.get?_push_of_some _ (Heap.get?_push_size _ rfl), rfl, rfl⟩ fun b ob e => Heap.get?_push_of_some _ (Heap.get?_push_of_some _ e)⟩
/-- the tuple at a, each item in a new pair -/
def IteT (K : PySem.W.Frag) (a : Addr) : It where
  go := fun i H => ∃ (xs : List V) (x : V), SqT K H a xs ∧ xs[i]? = some x
  yld := fun i H v H' => ∃ T x, v = .ref T ∧ H T = none ∧ H' = upd H T (.tup [.int (i : Nat), x]) ∧ ∀ xs, SqT K H a xs → xs[i]? = some x
  stop := fun i H => ∃ xs : List V, SqT K H a xs ∧ xs.length ≤ i
theorem tuple_apart {h : Heap} {a it : Addr} {items : Array Value} {i : Nat} (p : h.IsTuple a items) (hit : h.IsTupleIter it a i) : a ≠ it := fun e => by
  subst e
  obtain ⟨o, h1, h2, _⟩ := p
  obtain ⟨o2, k1, k2, _⟩ := hit
  rw [h1] at k1
  cases k1
  rw [h2] at k2
  exact absurd k2 (by decide)
theorem turn_enumT {P : Program} {w : World} {K : PySem.W.Frag} {elts : List Expr} {kk : Nat} {tpos : Pos} (a e it : Addr) :
    Turn P w K (.Tuple elts kk tpos) (IteT K a) [e, it] e (fun i h => (∃ old, IsEnum h e it ((i : Nat) : Int) old) ∧ h.IsTupleIter it a i ∧ e ≠ it) where
  mem := by simp
  obj := by
    rintro i h ⟨⟨old, he⟩, ⟨o, ho, hc, hd⟩, _⟩ b hb
    have two : b = e ∨ b = it := by simpa using hb
    rcases two with rfl | rfl
    · exact ⟨_, he, fun v q => nomatch q⟩
    · exact ⟨o, ho, fun v q => by rw [hd] at q; cases q⟩
  keep := by
    rintro i h h' ⟨⟨old, he⟩, ⟨o, ho, hr⟩, hne⟩ k
    exact ⟨⟨old, k e (by simp) _ he⟩, ⟨o, k it (by simp) _ ho, hr⟩, hne⟩
  item := by
    intro X hP hw hK hc i pins s σ H E I hf st hg
    subst hP hw hK
    obtain ⟨⟨old, he⟩, hit, hne⟩ := st
    obtain ⟨xs, x, hq, hx⟩ := hg
    obtain ⟨its, rv, p, hz⟩ := I.tuple hq
    have p : s.heap.IsTuple a its.toArray := p
    have hai := tuple_apart p hit
    obtain ⟨u, hu, ru⟩ := rv.get hx
    have hlt : i < its.toArray.size := by
      rw [List.size_toArray]
      exact (List.getElem?_eq_some_iff.mp hu).1
    have hea : e ≠ a := fun q => by
      subst q
      obtain ⟨o, h1, h2, _⟩ := p
      rw [he] at h1
      cases h1
      have h3 : Value.type "enumerate" = Value.type "tuple" := h2
      exact absurd h3 (by decide)
    have hel : e < s.heap.objs.size := Heap.lt_size he
    have hil : it < s.heap.objs.size := by
      obtain ⟨_, q, _⟩ := hit
      exact Heap.lt_size q
    refine wpAny_pyNext_enum_itemD (Draws.tuple (A := X.A.in1) (I.ok.hd hc) it a hai its.toArray) he ⟨hit, p⟩ hlt hne (by simp [hne, hea]) fun y h1 tk hy ho st1 hT hsz hk => ?_
    have hy : its.toArray[i]? = some y := hy
    have : y = u := by
      rw [List.getElem?_toArray, hu] at hy
      exact (Option.some.inj hy).symm
    subst this
    refine ⟨_, rfl, wpAny_letOwnedTupleGo_enum (s := { s with heap := h1, toks := tk + 1 }) ho fun h2 he2 sb => ?_⟩
    have hT2 : h2.get? s.heap.objs.size = some { cls := .type "tuple", data := .seq #[.int i tk, y] } := (sb.2 _ (Nat.ne_of_gt hel)).trans hT
    have kk : ∀ b ob, b ∉ [e, it] → s.heap.get? b = some ob → h2.get? b = some ob := fun b ob hb q => (sb.2 b fun z => hb (by simp [z])).trans (hk b ob (fun z => hb (by simp [z])) (fun z => hb (by simp [z])) q)
    have I1 := I.turnedNew (t' := tk + 1) (T := s.heap.objs.size) (ob := .tup [.int (i : Nat), x]) kk hf (Nat.le_refl _) ⟨by show 2 ≤ sizeLine; decide, [.int i tk, y], .cons ⟨_, rfl⟩ (.cons ru .nil), ⟨_, hT2, rfl, _, rfl⟩⟩
    refine ⟨.ref s.heap.objs.size, _, I1, rfl, ⟨_, x, rfl, I.hok.fresh (Nat.le_refl _), rfl, fun ys hy => by rw [I.tuple_inj hy hq]; exact hx⟩, ⟨⟨y, ?_⟩, st1.1.at fun o q => (sb.2 it hne.symm).trans q, hne⟩, fun b hb => ?_⟩
    · rw [show ((i + 1 : Nat) : Int) = (i : Int) + 1 by omega]
      exact he2
    · have hlt2 : b < s.heap.objs.size := by
        have two : b = e ∨ b = it := by simpa using hb
        rcases two with rfl | rfl
        · exact hel
        · exact hil
      rw [upd_ne (Nat.ne_of_lt hlt2)]
      exact (hf b hb).1
  done := by
    intro X hP hw hK hc i pins s σ H E I hf st hg
    subst hP hw hK
    obtain ⟨⟨old, he⟩, hit, hne⟩ := st
    obtain ⟨xs, hq, hx⟩ := hg
    obtain ⟨its, rv, p, hz⟩ := I.tuple hq
    have p : s.heap.IsTuple a its.toArray := p
    have hl := rv.length
    have hT : s.TypeIs (.ref e) "enumerate" := ⟨_, he, rfl⟩
    unfold pyNext
    refine wpAny_bind (wpAny_attempt (wpAny_callSpecial?_slot (name := Str.ofString "__next__") hT F.slot_enumerate_next (wpAny_call_entry F.slot_enumerate_next hT F.entry_enumerate_next ?_ (F.args_enumerate_next_1 _))))
    show wpAny _ _ (field (.ref e) 2 >>= _) _ _ _
    refine wpAny_bind (wpAny_field he rfl (x := .ref it) rfl (wpAny_bind (wpAny_nextOf_tuple_end (A := X.A.in1) (I.ok.hd hc) hit p (by simp; omega) fun h1 z hk hz => ?_)))
    obtain ⟨o, ho, hcl⟩ := hz
    refine wpAny_bind (wpAny_isInstance (T := "StopIteration") (b := true) ⟨o, ho, hcl⟩ isSubtype_stop (wpAny_pure ?_))
    exact ⟨rfl, I.turnedL (t' := s.toks) (ch := [e, it]) (fun b ob hb q => hk b ob (fun z => hb (by simp [z])) q) hf⟩
  self := fun A i s Q E st h => by
    obtain ⟨⟨_, he⟩, _⟩ := st
    exact wpAny_pyIter_enum he h
def iEnumT (K : PySem.W.Frag) (ta : TA) : TI := fun σ H R => ta σ H fun vs H1 => ∃ a xs, vs = [.ref a] ∧ SqT K H1 a xs ∧ R (IteT K a) H1
theorem pi_enumT {X : Cx} {e : Expr} {ta : TA} {p pos tpos : Pos} {elts : List Expr} {kk : Nat} (hg : Gl X "enumerate") (hm : X.mg "enumerate" = none) (ha : PA X [e] ta) (hs : starEach [e] X.env = [(false, eval e X.env)]) :
    PI X (.Tuple elts kk tpos) (.Call (.Name "enumerate" p) [e] [] pos) (iEnumT X.K ta) := by
  constructor
  intro pins s σ H R I h
  refine Call_ (ld_blt I hg hm boot_enumerate (PyProof.Rows.callWith_type1 (thn (ha.run pos pins s σ H _ I h) fun us s1 ⟨vs, H1, I1, r1, q1⟩ => ?_) hs rfl))
  obtain ⟨a, xs, ex, hq, q⟩ := q1
  subst ex
  cases r1 with
  | cons r rr =>
    cases rr
    cases r
    obtain ⟨its, rv, p1, _⟩ := I1.tuple hq
    refine call_enumT (items := its.toArray) p1 fun h1 he hit hk => wpAny_pyIter_enum he ?_
    refine ⟨s1.heap.objs.size + 1, [s1.heap.objs.size + 1, s1.heap.objs.size], _, _, H1, rfl, I1.kept (t' := s1.toks) hk, turn_enumT a (s1.heap.objs.size + 1) s1.heap.objs.size, ⟨⟨.none, he⟩, hit, Nat.succ_ne_self _⟩, fun b hb => ?_, q⟩
    have hle : s1.heap.objs.size ≤ b := by
      have two : b = s1.heap.objs.size + 1 ∨ b = s1.heap.objs.size := by simpa using hb
      rcases two with z | z
      · rw [z]
        exact Nat.le_succ _
      · exact Nat.le_of_eq z.symm
    exact I1.fpOk hle (I1.hok.fresh hle)
section
variable {X : Cx} {W : WX} {e : Expr} {Te : TE2} {pos : Pos}
/-- the pairs of enumerate -/
def enumD (ds : List Dt) : List Dt := ds.mapIdx fun i d => .tup [.int (i : Int), d]
theorem enumD_len {ds : List Dt} : (enumD ds).length = ds.length := List.length_mapIdx
theorem enumD_get {ds : List Dt} {i : Nat} {d : Dt} (h : (enumD ds)[i]? = some d) : ∃ z, ds[i]? = some z ∧ d = .tup [.int (i : Int), z] := by
  unfold enumD at h
  rw [List.getElem?_mapIdx] at h
  cases e : ds[i]? with
  | none => rw [e] at h; cases h
  | some z =>
    rw [e] at h
    exact ⟨z, rfl, (Option.some.inj h).symm⟩
def dEnumT (Te : TE2) : TI2 := fun x ds S Q => Te x ds S fun d S1 => ∃ es, asT d = some es ∧ Q (enumD es) S1
theorem j_enumT {elts : List Expr} {kk : Nat} {p tpos : Pos} (he : E2 X W e Te) (hm : X.mg "enumerate" = none) (hg : Gl X "enumerate" := by rfl) (hs : starEach [e] X.env = [(false, eval e X.env)] := by rfl) :
    J2 X W (.Tuple elts kk tpos) (.Call (.Name "enumerate" p) [e] [] pos) (dEnumT Te) := ⟨fun x ds S Q Q' h q => he.mono x ds S _ _ (fun d S1 ⟨es, e, q⟩ => ⟨es, e, h _ _ q⟩) q, by
  obtain ⟨t, pt, r⟩ := he.run
  refine ⟨_, pi_enumT hg hm (pa_cons pt pa_nil (by rw [hs]; rfl)) hs, fun x ds S σ H R h q => r x ds S σ H _ h (he.mono x ds S _ _ (fun d S1 ⟨es, e1, q⟩ v H1 s1 r1 => ?_) q)⟩
  obtain ⟨a, xs, e2, k1, k2⟩ := asT_ok r1 e1
  subst e2
  cases d with
  | tup fs =>
    cases (show some fs = some es from e1)
    obtain ⟨a', xs', e3, g1, g2⟩ := r1
    cases e3
    refine ⟨a, xs', rfl, sqT_mono wo_le g1, q H1 _ s1 fun S2 H2 s2 => ?_⟩
    have g3 : SqT X.K H2 a xs' := sqT_mono wo_le (sqT_mono s2.same g1)
    have kk := g2.mono s2.same
    refine ⟨fun i hi => ?_, fun i hi => ⟨xs', g3, by rw [enumD_len] at hi; rw [g2.length]; exact hi⟩, fun i v H' d hy hd => ?_⟩
    · have hi' : i < xs'.length := by
        rw [enumD_len] at hi
        rw [g2.length]
        exact hi
      exact ⟨xs', xs'[i], g3, List.getElem?_eq_getElem hi'⟩
    · obtain ⟨T, y, ev, hT, eH, hv⟩ := hy
      subst ev eH
      obtain ⟨z, hz, ed⟩ := enumD_get hd
      subst ed
      obtain ⟨u, k3, k4⟩ := kk.get hz
      cases (hv xs' g3).symm.trans k3
      have sm := new_same (o := .tup [.int (i : Nat), y]) s2.wd hT
      exact ⟨⟨sm, new_wd s2.wd hT⟩, T, [.int (i : Nat), y], rfl, SqT.of (new_at s2.wd hT), ⟨_, _, rfl, rfl, ⟨_, _, rfl, k4.mono sm, rfl⟩⟩⟩
  | _ => cases e1⟩
end
end Sc

/-! the reversed copies xs[::-1] -/
namespace Sc
open PySem PySem.Spec PyProof.Rows L2 Sm
theorem rev_pick (xs : Array Value) : ((List.range xs.size).filterMap fun (k : Nat) => xs[(((xs.size : Nat) : Int) - 1 + (k : Int) * -1).toNat]?).toArray = xs.toList.reverse.toArray := by
  have e : ((List.range xs.size).filterMap fun (k : Nat) => xs[(((xs.size : Nat) : Int) - 1 + (k : Int) * -1).toNat]?) = ((List.range xs.size).map fun k => xs.size - 1 - k).filterMap (xs[·]?) := by
    rw [List.filterMap_map]
    refine congrArg (fun f => List.filterMap f (List.range xs.size)) (funext fun k => ?_)
    show xs[(((xs.size : Nat) : Int) - 1 + (k : Int) * -1).toNat]? = xs[xs.size - 1 - k]?
    congr 1
    omega
  rw [e, PySem.W.krv_range, List.filterMap_reverse, PySem.W.krv_all]
section
variable {prog : Program} {w : World} {A : Around} {E : Value → Shared → Prop} {s : Shared}
theorem applied_rev {sl : Addr} {vl vu vs : Value} {n : Nat} {Q : Int × Int × Nat → Shared → Prop} (hs : s.heap.IsSliceOf sl vl vu vs) (pl : IsPart vl none) (pu : IsPart vu none) (ps : IsPart vs (some (-1)))
    (q : Q ((n : Int) - 1, -1, n) s) : wpAny (model prog w) A (Builtin.Slice.sliceApplied (.ref sl) (pure (n : Int))) Q E s := by
  obtain ⟨os, ho, _, hd⟩ := hs
  unfold Builtin.Slice.sliceApplied Builtin.Slice.sliceFields
  refine wpAny_bind (wpAny_bind (wpAny_field ho hd (x := vl) rfl (wpAny_bind (wpAny_field ho hd (x := vu) rfl (wpAny_bind (wpAny_field ho hd (x := vs) rfl (wpAny_pure ?_)))))))
  refine wpAny_bind (HT.slicePart_ ps ?_)
  show wpAny _ _ (if ((-1 : Int) == 0) = true then _ else _) _ _ s
  rw [if_neg (by decide)]
  refine wpAny_bind (HT.slicePart_ pl (wpAny_bind (HT.slicePart_ pu (wpAny_bind (wpAny_pure ?_)))))
  show wpAny _ _ (match Builtin.Slice.sliceAdjust none none (-1) (n : Int) with | (lo, hi) => pure (lo, (-1 : Int), Builtin.Slice.slicePlaces lo hi (-1))) _ _ s
  have e1 : Builtin.Slice.sliceAdjust none none (-1) (n : Int) = ((n : Int) - 1, -1) := rfl
  have e2 : Builtin.Slice.slicePlaces ((n : Int) - 1) (-1) (-1) = n := by
    unfold Builtin.Slice.slicePlaces
    rw [if_neg (by decide)]
    have e3 : (-(-1) : Int) = 1 := by decide
    rw [e3, Int.ediv_one]
    split <;> omega
  rw [e1]
  show wpAny _ _ (pure ((n : Int) - 1, (-1 : Int), Builtin.Slice.slicePlaces ((n : Int) - 1) (-1) (-1))) _ _ s
  rw [e2]
  exact wpAny_pure q
theorem get_revT {t sl : Addr} {items : Array Value} {vl vu vs : Value} {Q : Value → Shared → Prop} (ht : IsTup s.heap t items) (hs : s.heap.IsSliceOf sl vl vu vs) (pl : IsPart vl none) (pu : IsPart vu none) (ps : IsPart vs (some (-1)))
    (q : Q (.ref s.heap.objs.size) { s with heap := s.heap.push { cls := .type "tuple", data := .seq items.toList.reverse.toArray } }) (hz : items.size ≤ sizeLine) : wpAny (model prog w) A (getItem (.ref t) (.ref sl)) Q E s := by
  have hz2 : sizeOk (.seq items.toList.reverse.toArray) := by
    show items.toList.reverse.toArray.size ≤ sizeLine
    rw [List.size_toArray, List.length_reverse, Array.length_toList]
    exact hz
  obtain ⟨os, ho, hcs, hd⟩ := id hs
  have hT : s.TypeIs (.ref sl) "slice" := ⟨os, ho, hcs⟩
  unfold getItem
  try with_reducible refine wpAny_holding ?_
  first | refine wpAny_bind (wpAny_pure ?_) | skip
  refine wpAny_bind (wpAny_sequenceKey ht.typeIs (by decide) (wpAny_bind (wpAny_callSpecial?_slot (name := Str.ofString "__getitem__") ht.typeIs PyProof.Rows.slot_tuple_getitem (wpAny_call_entry PyProof.Rows.slot_tuple_getitem ht.typeIs entry_tuple_getitem ?_ (args_tuple_getitem _ _)))))
  show wpAny _ _ (Builtin.Tuple.tupleItemsOf (.ref t) >>= _) _ _ s
  refine wpAny_bind (tupleItemsOf_ ht (wpAny_bind (wpAny_typeOf hT ?_)))
  rw [if_pos (by decide)]
  refine wpAny_bind (applied_rev hs pl pu ps ?_)
  have no : ¬ (((((items.size : Nat) : Int) - 1) == 0 && (-1 : Int) == 1 && items.size == items.size) = true) := by
    intro z
    rw [Bool.and_eq_true, Bool.and_eq_true] at z
    exact absurd z.1.2 (by decide)
  show wpAny _ _ (if ((((items.size : Nat) : Int) - 1) == 0 && (-1 : Int) == 1 && items.size == items.size) = true then _ else _) _ _ s
  rw [if_neg no, rev_pick]
  first
    | exact wpAny_bind (m := Builtin.Tuple.tupleExact _) (wpAny_newObj_type (wpAny_pure ⟨_, rfl, wpAny_pure q⟩) hz2)
    | exact wpAny_bind (m := Builtin.Tuple.tupleExact _) (wpAny_newObj_type (wpAny_bind (wpAny_pure (wpAny_pure ⟨_, rfl, wpAny_pure q⟩))) hz2)
    | exact wpAny_bind (wpAny_bind (m := Builtin.Tuple.tupleExact _) (wpAny_newObj_type (wpAny_pure (wpAny_pure ⟨_, rfl, wpAny_pure q⟩)) hz2))
    | exact wpAny_bind (wpAny_bind (m := Builtin.Tuple.tupleExact _) (wpAny_newObj_type (wpAny_pure ⟨_, rfl, wpAny_pure q⟩) hz2))
end
def tRevT (K : PySem.W.Frag) (te : TE) : TE := fun σ H Q => te σ H fun x H1 => ∃ a xs, x = .ref a ∧ SqT K H1 a xs ∧ ∀ p, H1 p = none → Q (.ref p) (upd H1 p (.tup xs.reverse))
theorem pe_revT {X : Cx} {e : Expr} {te : TE} {k : Nat} {p1 p2 p3 pos : Pos} (he : PE X e te) : PE X (.Subscript e (.Slice none none (some (.UnaryOp .USub (.Constant (.int 1) k p1) p2)) p3) pos) (tRevT X.K te) := by
  constructor
  intro pins s σ H Q I h
  refine Subscript_ (thn (he.run pins s σ H _ I h) fun v s1 ⟨x, H1, I1, rx, a, xs, ex, hx, q⟩ => ?_)
  subst ex
  cases rx
  have minus : PO X (some (.UnaryOp .USub (.Constant (.int 1) k p1) p2)) (tPart (tUn (rU fun i => .int (-i)) (tC (.int 1)))) := po_some (pe_un un_neg pe_int)
  refine wpAny_Slice (thn (po_none.run pins s1 σ H1 (fun o H2 => o = none ∧ H2 = H1) I1 ⟨rfl, rfl⟩) fun vl s2 ⟨l, H2, I2, pl, el, e2⟩ => thn (po_none.run pins s2 σ H2 (fun o H3 => o = none ∧ H3 = H2) I2 ⟨rfl, rfl⟩) fun vu s3 ⟨u, H3, I3, pu, eu, e3⟩ =>
    thn (minus.run pins s3 σ H3 (fun o H4 => o = some (-1) ∧ H4 = H3) I3 ⟨1, rfl, -1, rfl, rfl, rfl⟩) fun vs s4 ⟨o, H4, I4, ps, eo, e4⟩ => ?_)
  subst el e2 eu e3 eo e4
  have I5 : Inv X pins σ H4 { s4 with heap := s4.heap.push { cls := .type "slice", data := .fields #[vl, vu, vs] } } := I4.kept (t' := s4.toks) fun b ob q => Heap.get?_push_of_some _ q
  obtain ⟨its, r, ht, hz⟩ := I5.tuple hx
  have hl := r.length
  show wpAny (model X.prog X.w) X.A (subscriptTail e (.Slice none none (some (.UnaryOp .USub (.Constant (.int 1) k p1) p2)) p3) (.ref a) (.ref s4.heap.objs.size)) (EP X pins σ Q) X.xe { s4 with heap := s4.heap.push { cls := .type "slice", data := .fields #[vl, vu, vs] } }
  refine tail_any (ops := [.ref a, .ref s4.heap.objs.size]) ht.typeIs PyProof.Rows.slot_tuple_getitem.lookup ?_ (by with_unfolding_all rfl)
  refine get_revT ht (Heap.IsSliceOf.new _ vl vu vs) pl pu ps ?_ (by rw [List.size_toArray]; omega)
  refine ⟨.ref _, _, I5.laid (t' := s4.toks) (o := .tup xs.reverse) (fun b ob q => Heap.get?_push_of_some _ q) (Nat.le_refl _) ⟨by rw [List.length_reverse]; exact hz, its.reverse, r.reverse, ?_⟩, rfl, q _ (I5.hok.fresh (Nat.le_refl _))⟩
  exact IsTup.new _ _
section
variable {X : Cx} {W : WX} {e : Expr} {Te : TE2} {pos : Pos}
def dRevT (Te : TE2) : TE2 := fun x ds S Q => Te x ds S fun d S1 => ∃ es, asT d = some es ∧ Q (.tup es.reverse) S1
theorem e_revT {k : Nat} {p1 p2 p3 : Pos} (he : E2 X W e Te) : E2 X W (.Subscript e (.Slice none none (some (.UnaryOp .USub (.Constant (.int 1) k p1) p2)) p3) pos) (dRevT Te) := ⟨fun x ds S Q Q' h p => he.mono x ds S _ _ (fun d S1 ⟨es, e, q⟩ => ⟨es, e, h _ _ q⟩) p, by
  obtain ⟨t, p, r⟩ := he.run
  refine ⟨_, pe_revT p, fun x ds S σ H Q h q => r x ds S σ H _ h (he.mono x ds S _ _ (fun d S1 ⟨es, e1, q⟩ v H1 s1 r1 => ?_) q)⟩
  obtain ⟨a, xs, e2, k1, k2⟩ := asT_ok r1 e1
  exact ⟨a, xs, e2, k1, fun p hp => newT.run s1 k2.rev q hp⟩⟩
def dRevL (Te : TE2) : TE2 := fun x ds S Q => Te x ds S fun d S1 => ∃ es, asL S1 d = some es ∧ newL es.reverse S1 Q
theorem e_revL {k : Nat} {p1 p2 p3 : Pos} (he : E2 X W e Te) : E2 X W (.Subscript e (.Slice none none (some (.UnaryOp .USub (.Constant (.int 1) k p1) p2)) p3) pos) (dRevL Te) := ⟨fun x ds S Q Q' h p => he.mono x ds S _ _ (fun d S1 ⟨es, e, q⟩ => ⟨es, e, newL.mono h q⟩) p, by
  obtain ⟨t, p, r⟩ := he.run
  refine ⟨_, pe_revL p, fun x ds S σ H Q h q => r x ds S σ H _ h (he.mono x ds S _ _ (fun d S1 ⟨es, e1, q⟩ v H1 s1 r1 => ?_) q)⟩
  obtain ⟨a, xs, e2, k1, k2⟩ := asL_ok s1.wd r1 e1
  exact ⟨a, xs, e2, k1, fun p hp => newL.run s1 k2.rev q hp⟩⟩
end
end Sc
namespace Sc
open PySem PySem.Spec PyProof.Rows L2 Sm
section
variable {G : TG2} {B : TS2} {x : XK2} {D : Ends2}
/-- a loop over what is told by its number -/
theorem loop_idx (enc : Nat → Dt) (I : Nat → Ds → Cells → Prop) {n : Nat} {ds : Ds} {S : Cells} (h0 : I 0 ds S)
    (step : ∀ (i : Nat) ds S (N : Ds → Cells → Prop), i < n → I i ds S → (∀ ds' S', I (i + 1) ds' S' → N ds' S') → G (enc i) ds S fun ds1 S1 => B x ⟨N, D.rt, D.nx, N⟩ ds1 S1)
    (done : ∀ ds S, I n ds S → D.nx ds S) : dLoop G B x D ((List.range n).map enc) ds S := by
  refine loop_rest (B := B) enc (fun r ds S => ∃ i : Nat, I i ds S ∧ i + r.length = n ∧ r = List.range' i r.length) ?st ?dn _ ds S ⟨0, h0, by simp, by simp [List.range_eq_range']⟩
  case st =>
    intro a r ds S N ⟨i, h, e, m⟩ hN
    rw [List.length_cons, List.range'_succ] at m
    obtain ⟨rfl, hr⟩ := List.cons.inj m
    rw [List.length_cons] at e
    exact step a ds S N (by omega) h fun ds' S' h' => hN ds' S' ⟨a + 1, h', by omega, hr⟩
  case dn =>
    intro ds S ⟨i, h, e, _⟩
    rw [List.length_nil] at e
    have e' : i = n := by omega
    rw [e'] at h
    exact done ds S h
end
theorem enumD_map {α : Type} (g : α → Dt) (l : List α) (z : α) : enumD (l.map g) = (List.range l.length).map fun (j : Nat) => .tup [.int (j : Int), g (l.getD j z)] := by
  refine List.ext_getElem? fun i => ?_
  unfold enumD
  rw [List.getElem?_mapIdx, List.getElem?_map, List.getElem?_map]
  by_cases h : i < l.length
  · rw [List.getElem?_range h, List.getElem?_eq_getElem h]
    simp [List.getD, List.getElem?_eq_getElem h]
  · rw [List.getElem?_eq_none (by omega), List.getElem?_eq_none (by simp; omega)]
    rfl
theorem map_set {α : Type} (f : Nat → α) (n k : Nat) (d : α) : ((List.range n).map f).set k d = (List.range n).map fun i => if i = k then d else f i := by
  refine List.ext_getElem? fun i => ?_
  rw [List.getElem?_set, List.getElem?_map, List.getElem?_map]
  by_cases h : i < n
  · rw [List.getElem?_range h]
    by_cases e : k = i
    · rw [if_pos e, if_pos (by simp; omega)]
      simp [e]
    · rw [if_neg e]
      simp [Ne.symm e]
  · rw [List.getElem?_eq_none (by simp; omega)]
    by_cases e : k = i
    · rw [if_pos e, if_neg (by simp; omega)]
      rfl
    · rw [if_neg e]
      rfl
theorem isIn_int (i : Int) (l : List Int) : isIn (.int i) (l.map Dt.int) = decide (i ∈ l) := by
  unfold isIn
  rw [List.map_map]
  show inV (.int i) (l.map V.int) = _
  induction l with
  | nil => rfl
  | cons a l ih =>
    have e : inV (.int i) (V.int a :: l.map V.int) = ((eqV (.int a) (.int i)) || inV (.int i) (l.map V.int)) := rfl
    rw [List.map_cons, e, ih]
    have e2 : eqV (.int a) (.int i) = (a == i) := rfl
    rw [e2]
    by_cases h : a = i
    · subst h; simp
    · have h2 : ¬ i = a := fun e => h e.symm
      simp [h, h2]
end Sc

namespace Sc
open PySem PySem.Spec PyProof.Rows L2 Sm
/-! ### parts of chains, as data -/
theorem cutG_map {α β : Type} {g : α → β} {c : List α} {lo hi : Option Int} : cutG (c.map g) lo hi = (cutG c lo hi).map g := by
  unfold cutG
  rw [List.length_map, List.map_take, List.map_drop]
theorem cutG_mem {α : Type} {c : List α} {lo hi : Option Int} {s : α} (h : s ∈ cutG c lo hi) : s ∈ c := List.mem_of_mem_drop (List.mem_of_mem_take h)
theorem sIx_nat {n d i : Nat} : HT.sIx n d (some (i : Int)) = min i n := by
  simp only [HT.sIx]
  first
    | omega
    | (split <;> omega)
theorem sIx_none {n d : Nat} : HT.sIx n d none = d := rfl
theorem cutG_to {α : Type} {c : List α} {i : Nat} : cutG c none (some (i : Int)) = c.take i := by
  unfold cutG
  rw [sIx_nat, sIx_none, List.drop_zero, Nat.sub_zero]
  by_cases h : i ≤ c.length
  · rw [Nat.min_eq_left h]
  · rw [Nat.min_eq_right (by omega), List.take_of_length_le (by omega), List.take_of_length_le (by omega)]
theorem cutG_from {α : Type} {c : List α} {i : Nat} : cutG c (some (i : Int)) none = c.drop i := by
  unfold cutG
  rw [sIx_nat, sIx_none, List.take_of_length_le (by rw [List.length_drop]; omega)]
  by_cases h : i ≤ c.length
  · rw [Nat.min_eq_left h]
  · rw [Nat.min_eq_right (by omega), List.drop_of_length_le (by omega), List.drop_of_length_le (by omega)]
theorem cutG_next {α : Type} {c : List α} {i : Nat} : cutG c (some ((i : Int) + 1)) none = c.drop (i + 1) := by
  have e : (i : Int) + 1 = ((i + 1 : Nat) : Int) := by omega
  rw [e, cutG_from]
theorem at_mapG {α β : Type} {g : α → β} {l : List α} {i : Int} {s : α} (h : atI l i = some s) : atI (l.map g) i = some (g s) := by
  unfold atI at h ⊢
  rw [List.length_map]
  cases e : ixN l.length i with
  | none => rw [e] at h; cases h
  | some k =>
    rw [e] at h
    have h : l[k]? = some s := h
    show (l.map g)[k]? = some (g s)
    rw [List.getElem?_map, h]
    rfl
theorem okB_g {a : Option Int} (h : okB a) : okB (some (a.getD 0)) := fun j e => by
  cases e
  cases a with
  | none => decide
  | some i => exact h i rfl
theorem okB_w {w : Int} {o : Option Int} (h : inW w o) (hw : w ≤ 30) : okB o := fun j e => by
  have := h j e
  omega
theorem okB_n : okB none := fun i e => by cases e
theorem okB_i {i : Int} (h : -30 ≤ i ∧ i ≤ 30) : okB (some i) := fun j e => by cases e; exact h
theorem sEq_dO (o : Option Int) : sEq (dO o) (dO o) = some true := by
  cases o with
  | none => rfl
  | some i =>
    show some (decide (i = i)) = some true
    simp
theorem dCh_cat {c d : List Sl} : List.map dS c ++ List.map dS d = List.map dS (c ++ d) := (List.map_append ..).symm
/-- one slice of a chain is another -/
theorem okC_put {c : List Sl} (h : okC c) {i : Nat} (hi : i < c.length) {o : Sl} (ho : okS o) : okC (c.take i ++ [o] ++ c.drop (i + 1)) := by
  refine ⟨by simp only [List.length_append, List.length_singleton, List.length_take, List.length_drop]; have := h.1; omega, fun z hz => ?_⟩
  simp only [List.mem_append, List.mem_singleton] at hz
  rcases hz with (hz | hz) | hz
  · exact h.2 z (List.mem_of_mem_take hz)
  · rw [hz]; exact ho
  · exact h.2 z (List.mem_of_mem_drop hz)
/-- a comprehension over what is told by its parts, with a test -/
theorem comp_filA2 {α : Type} {G : TG2} {Tt : TT2} {Te : TE2} {p : Addr} {ds : Ds} {Q : QE} (enc : α → Dt) (f : α → Bool) (g : α → Dt) : ∀ (l : List α) (acc : List Dt) (S : Cells), acc.length + l.length < 100000 →
    (∀ a, a ∈ l → ∀ (S : Cells) (R1 : QE) (R2 : Cells → Prop), (f a = true → R1 (g a) S) → (f a = false → R2 S) → G (enc a) ds S fun ds2 S2 => Tt x0 ds2 S2 fun k S3 => if k = true then Te x0 ds2 S3 R1 else R2 S3) →
    ((∀ c, Q (.lst (acc ++ (l.filter f).map g)) ((S.put p c).del p)) ∨ Q (.ref p) (S.put p (.lst (acc ++ (l.filter f).map g)))) → dComp G Tt Te p ds Q (l.map enc) acc (S.put p (.lst acc))
  | [], acc, S, _, h, q => ⟨Cells.put_same, by
    rcases q with q | q
    · exact .inl (by simpa using q _)
    · exact .inr (by simpa using q)⟩
  | d :: r, acc, S, hl, h, q => by
    have hl' : acc.length + (r.length + 1) < 100000 := hl
    refine h d List.mem_cons_self _ (fun y S4 => S4 p = some (.lst acc) ∧ acc.length < 100000 ∧ dComp G Tt Te p ds Q (r.map enc) (acc ++ [y]) (S4.put p (.lst (acc ++ [y])))) (fun S3 => dComp G Tt Te p ds Q (r.map enc) acc S3) (fun k => ⟨Cells.put_same, by omega, ?_⟩) (fun k => ?_)
    · rw [Cells.put_put]
      refine comp_filA2 enc f g r (acc ++ [g d]) S (by rw [List.length_append, List.length_singleton]; omega) (fun e he => h e (List.mem_cons_of_mem _ he)) ?_
      rw [List.filter_cons_of_pos k] at q
      rcases q with q | q
      · exact .inl (by simpa using q)
      · exact .inr (by simpa using q)
    · refine comp_filA2 enc f g r acc S (by omega) (fun e he => h e (List.mem_cons_of_mem _ he)) ?_
      rw [List.filter_cons_of_neg (by rw [k]; decide)] at q
      exact q
theorem comp_filE {α : Type} {G : TG2} {Tt : TT2} {Te : TE2} {ds : Ds} {S : Cells} {Q : QE} {l : List α} (enc : α → Dt) (f : α → Bool) (g : α → Dt) (hl : l.length < 100000)
    (h : ∀ a, a ∈ l → ∀ (S : Cells) (R1 : QE) (R2 : Cells → Prop), (f a = true → R1 (g a) S) → (f a = false → R2 S) → G (enc a) ds S fun ds2 S2 => Tt x0 ds2 S2 fun k S3 => if k = true then Te x0 ds2 S3 R1 else R2 S3)
    (q : newL ((l.filter f).map g) S Q) : ∀ p, S p = none → dComp G Tt Te p ds Q (l.map enc) [] (S.put p (.lst [])) := fun p hp => by
  refine comp_filA2 enc f g l [] S (by simpa using hl) h ?_
  rcases q with q | q
  · refine .inl fun c => ?_
    rw [del_put hp]
    simpa using q
  · exact .inr (by simpa using q p hp)
theorem comp_mapE {α : Type} {G : TG2} {Te : TE2} {ds : Ds} {S : Cells} {Q : QE} {l : List α} (enc : α → Dt) (g : α → Dt) (hl : l.length < 100000)
    (h : ∀ a, a ∈ l → ∀ (S : Cells) (R : QE), R (g a) S → G (enc a) ds S fun ds2 S2 => Te x0 ds2 S2 R)
    (q : newL (l.map g) S Q) : ∀ p, S p = none → dComp G dYes Te p ds Q (l.map enc) [] (S.put p (.lst [])) :=
  comp_filE enc (fun _ => true) g hl (fun a ha S R1 R2 y _ => h a ha S (fun d S3 => if true = true then R1 d S3 else R2 S3) (y rfl)) (by rw [List.filter_eq_self.mpr (fun _ _ => rfl)]; exact q)
/-- a store that grew from S, the list at p still to be told -/
structure Grow (S : Cells) (p : Addr) (S' : Cells) : Prop where
  use : ∀ (Q : QE) (d : Dt) (c : Cell), Fg Q → Q d (S.put p c) → Q d (S'.put p c)
theorem Grow.base {S : Cells} {p : Addr} {c : Cell} : Grow S p (S.put p c) := ⟨fun Q d c' _ q => by rw [Cells.put_put]; exact q⟩
theorem Grow.put {S S' : Cells} {p : Addr} {c : Cell} (h : Grow S p S') : Grow S p (S'.put p c) := ⟨fun Q d c' f q => by rw [Cells.put_put]; exact h.use Q d c' f q⟩
theorem Grow.fresh {S S' : Cells} {p q : Addr} {c : Cell} (h : Grow S p S') (hq : S' q = none) (ne : q ≠ p) : Grow S p (S'.put q c) := ⟨fun Q d c' f z => by
  rw [put_comm ne]
  exact f _ _ _ _ (by rw [Cells.put_ne ne]; exact hq) (h.use Q d c' f z)⟩
theorem newL.fin {l : List Dt} {S : Cells} {Q : QE} {r : Addr} (frg : Frg Q) (hr : S r = none) (q : newL l S Q) : Q (.ref r) (S.put r (.lst l)) := q.elim (frg.fz S r l hr) (fun q => q r hr)
theorem at_last {l : List Dt} {d : Dt} : atI (l ++ [d]) (-1) = some d := by
  have e : ixN (l ++ [d]).length (-1) = some l.length := by
    unfold ixN
    rw [List.length_append, List.length_singleton, if_neg (by decide)]
    first
      | (rw [if_pos (by omega)]; congr 1; omega)
      | (simp; omega)
      | simp
  unfold atI
  rw [e]
  show (l ++ [d])[l.length]? = some d
  simp
end Sc

/-! a tuple, not empty, times 0 or 1, or more -/
namespace Sc
open PySem PySem.Spec PyProof.Rows L2 Sm
open PySem.SeqAt
open PySem.AutoSeq1 (wpAny_loadPart')
theorem mul_one' (l : Addr) (items : Array Value) (n : Nat) (dd : Option Addr) (sl : Array (Option Value)) (u : Tok) :
    Meets (Builtin.«tuple.__mul__» ⟨[.ref l, .int 1 u], []⟩) (fun _ R s => s.heap.get? l = some { cls := .type "tuple", dict := dd, data := .seq items n, slots := sl } ∧ R (.ok (.ret (Value.ref l))) s) :=
  .of_wp fun prog w A R s h => by
    obtain ⟨hp, g, d, tk, os⟩ := s
    obtain ⟨hl, h⟩ := h
    have f1 := AutoSeq1.idx_int
    wp_walk using wpAny_loadPart' hl
    exact ⟨_, rfl, h⟩
theorem mul_zero' (l : Addr) (items : Array Value) (n : Nat) (dd : Option Addr) (sl : Array (Option Value)) (u : Tok) (hi : items.isEmpty = false) :
    Meets (Builtin.«tuple.__mul__» ⟨[.ref l, .int 0 u], []⟩) (fun _ R s => s.heap.get? l = some { cls := .type "tuple", dict := dd, data := .seq items n, slots := sl } ∧ R (.ok (.ret (Value.ref s.heap.objs.size))) { s with heap := s.heap.push { cls := Value.type "tuple", data := Data.seq #[] }, toks := s.toks }) :=
  .of_wp fun prog w A R s h => by
    obtain ⟨hp, g, d, tk, os⟩ := s
    obtain ⟨hl, h⟩ := h
    have f1 := AutoSeq1.idx_int
    have c1 : (items.isEmpty || (0 : Int) == 1) = false := by rw [hi]; rfl
    wp_walk using wpAny_loadPart' hl
    repeat (first
      | (refine wpAny_ite_false (decide_eq_false (by rw [c1]; exact Bool.false_ne_true)) ?_; wp_walk using wpAny_loadPart' hl))
    exact ⟨_, rfl, h⟩
/-- a tuple, not empty, so many times -/
def rRepAny (K : PySem.W.Frag) : R2 := fun x y H Q => ∃ l k xs, x = .ref l ∧ y = .int k ∧ SqT K H l xs ∧ xs ≠ [] ∧ 0 ≤ k ∧ k ≤ 1000 ∧ xs.length ≤ 1000 ∧ (k = 1 → Q (.ref l) H) ∧ (k ≠ 1 → ∀ p, H p = none → Q (.ref p) (upd H p (.tup (List.replicate k.toNat xs).flatten)))
theorem op_repAny {X : Cx} : OpR X (binaryOp .Mult) (rRepAny X.K) := by
  intro pins s σ H x y v u Q I rx ry h
  obtain ⟨l, k, xs, rfl, rfl, hT, hne, h0, h1, hz, q1, q2⟩ := h
  by_cases h2 : 2 ≤ k
  · exact op_repT pins s σ H _ _ v u Q I rx ry ⟨l, k, xs, rfl, rfl, hT, hne, h2, h1, hz, q2 (by omega)⟩
  · cases rx
    obtain ⟨t, rfl⟩ := ry
    obtain ⟨its, r, ⟨⟨cls, dd, data, sl⟩, ho, hc, n, hd⟩, hs⟩ := I.tuple hT
    simp only at hc hd
    subst hc hd
    have hi : its.toArray.isEmpty = false := by
      cases its with
      | nil =>
        cases r
        exact absurd rfl hne
      | cons a b => rfl
    have cs : k = 0 ∨ k = 1 := by omega
    rcases cs with rfl | rfl
    · refine wpAny_binaryOp_repeat_ref (T := "tuple") (U := "int") (by decide) ⟨_, ho, rfl⟩ (fun s' => typeIs_int s' 0 t) noFill_tuple_mul F.fills_int_mul F.slot_int_rmul repeat_tuple F.slot_int_index.lookup
        (call_meets F.slot_int_rmul (typeIs_int s 0 t) F.entry_int_rmul (F.args_int_rmul_2 _ _) (int_rmul_tuple 0 t l its.toArray n dd sl) ⟨ho, rfl, ⟨_, ho, rfl⟩, call_meets F.slot_tuple_mul ⟨_, ho, rfl⟩ F.entry_tuple_mul (F.args_tuple_mul_2 _ _) (mul_zero' l its.toArray n dd sl t hi) ⟨ho, ?_⟩⟩)
      refine ⟨.ref s.heap.objs.size, _, I.laid (t' := s.toks) (o := .tup []) (fun b ob q => Heap.get?_push_of_some _ q) (Nat.le_refl _) ⟨Nat.zero_le _, [], .nil, IsTup.new _ _⟩, rfl, ?_⟩
      have := q2 (by decide) s.heap.objs.size (I.hok.fresh (Nat.le_refl _))
      exact this
    · refine wpAny_binaryOp_repeat_ref (T := "tuple") (U := "int") (by decide) ⟨_, ho, rfl⟩ (fun s' => typeIs_int s' 1 t) noFill_tuple_mul F.fills_int_mul F.slot_int_rmul repeat_tuple F.slot_int_index.lookup
        (call_meets F.slot_int_rmul (typeIs_int s 1 t) F.entry_int_rmul (F.args_int_rmul_2 _ _) (int_rmul_tuple 1 t l its.toArray n dd sl) ⟨ho, rfl, ⟨_, ho, rfl⟩, call_meets F.slot_tuple_mul ⟨_, ho, rfl⟩ F.entry_tuple_mul (F.args_tuple_mul_2 _ _) (mul_one' l its.toArray n dd sl t) ⟨ho, ?_⟩⟩)
      exact ⟨.ref l, H, I, rfl, q1 rfl⟩
section
variable {X : Cx}
def qRepA : QO := fun d e S Q => ∃ ds k, asT d = some ds ∧ e = .int k ∧ ds ≠ [] ∧ 0 ≤ k ∧ k ≤ 1000 ∧ ds.length ≤ 1000 ∧ Q (.tup (List.replicate k.toNat ds).flatten) S
theorem o_repA : O2 X (binaryOp .Mult) qRepA := ⟨fun d e S Q Q' hq ⟨ds, k, h1, h2, h3, h4, h5, h6, q⟩ => ⟨ds, k, h1, h2, h3, h4, h5, h6, hq _ _ q⟩, _, op_repAny, fun d e v u S H Q w r1 r2 ⟨ds, k, h1, h2, h3, h4, h5, h6, q⟩ => by
  obtain ⟨a, xs, e1, k1, k2⟩ := asT_ok r1 h1
  subst h2 e1
  refine ⟨a, k, xs, rfl, r2, k1, fun z => h3 ?_, h4, h5, by rw [k2.length]; exact h6, fun e => ?_, fun _ p hp => newT.run ⟨Same.refl _, w⟩ (k2.rep k.toNat) q hp⟩
  · have := k2.length
    rw [z] at this
    exact List.eq_nil_of_length_eq_zero this.symm
  · subst e
    have e2 : (List.replicate (Int.toNat 1) ds).flatten = ds := by
      show (List.replicate 1 ds).flatten = ds
      simp
    rw [e2] at q
    refine q _ H ⟨Same.refl _, w⟩ ?_
    cases d with
    | tup es => cases (show some es = some ds from h1); exact r1
    | _ => cases h1⟩
end
end Sc

/-! sorted of a list of ints -/
namespace Sc
open PySem PySem.Spec PyProof.Rows L2 Sm
section
variable {X : Cx}
def qSortI : QC := fun ds S Q => ∃ (d : Dt) (ns : List Int), ds = [d] ∧ asL S d = some (ns.map Dt.int) ∧ ∀ ms : List Int, ms.Perm ns → ms.Pairwise (· ≤ ·) → newL (ms.map Dt.int) S Q
theorem c_sortI : C2 X (.builtin "sorted") qSortI := ⟨fun ds S Q Q' hq ⟨d, es, e, h, q⟩ => ⟨d, es, e, h, fun ms h1 h2 => newL.mono hq (q ms h1 h2)⟩, _, cr_sortedI, fun ds vs S H Q w r ⟨d, ns, e, h, q⟩ => by
  subst e
  obtain ⟨u, e1, r1⟩ := rps1 r
  obtain ⟨a, xs, e2, h1, h2⟩ := asL_ok w r1 h
  subst e2
  rw [h2.ints] at h1
  exact ⟨a, ns, e1, h1, fun ms p h3 h4 hp => newL.run ⟨Same.refl _, w⟩ (Rps.of_ints ms) (q ms h3 h4) hp⟩⟩
end
end Sc

/-! sorted of a list of data; x in a list of data; l += m -/
namespace Sc
open PySem PySem.Spec PyProof.Rows L2 Sm
section
variable {X : Cx}
/-- sorted(xs): each item a value with the data that it reads as -/
def rSortD (K : PySem.W.Frag) : List V → Hp → VK → Prop := fun vs H Q => ∃ (a : Addr) (bs : List (V × Dt)), vs = [.ref a] ∧ SqL K H a (bs.map (·.1)) ∧ (∀ b, b ∈ bs → Dp K H b.1 (py b.2)) ∧ PySem.W.AllAlike (bs.map fun b => py b.2) ∧ PySem.W.Sortable (bs.map fun b => py b.2) ∧ (∀ b, b ∈ bs → (py b.2).depth ≤ 60) ∧
  ∀ p, H p = none → Q (.ref p) (upd H p (.lst ((bs.mergeSort (PySem.W.dataLe false fun b => py b.2)).map (·.1))))
theorem each_vals : ∀ {bs : List (V × Dt)} {its : List Value}, Vals (bs.map (·.1)) its → PySem.W.EachIs (fun v (b : V × Dt) => RelV b.1 v) its bs
  | [], _, h => by cases h; exact .nil
  | b :: bs, _, h => by
    cases h with
    | cons r t => exact .cons r (each_vals t)
theorem vals_each : ∀ {bs : List (V × Dt)} {its : List Value}, PySem.W.EachIs (fun v (b : V × Dt) => RelV b.1 v) its bs → Vals (bs.map (·.1)) its
  | _, _, .nil => .nil
  | _, _, .cons r t => .cons r (vals_each t)
theorem each_reads {pins : List (Addr × Obj)} {σ : L2.St} {H : Hp} {s : Shared} (I : Inv X pins σ H s) : ∀ {bs : List (V × Dt)} {its : List Value}, (∀ b, b ∈ bs → Dp X.K H b.1 (py b.2)) → PySem.W.EachIs (fun v (b : V × Dt) => RelV b.1 v) its bs → PySem.W.EachIs (fun v (b : V × Dt) => ∃ as, Reads s.heap v (py b.2) as) its bs
  | _, _, _, .nil => .nil
  | _, _, h, .cons r t => .cons (Dp.reads I _ _ _ (h _ List.mem_cons_self) r) (each_reads I (fun b hb => h b (List.mem_cons_of_mem _ hb)) t)
theorem cr_sortD (hu : X.A.units + 64 < cLine) : CallR X (.builtin "sorted") (rSortD X.K) := by
  intro pins s σ H vs us Q I r h
  obtain ⟨a, bs, rfl, hs, hd, hal, hso, hdp, q⟩ := h
  obtain ⟨its, rv, hl, hz⟩ := I.list hs
  rw [Vals.ref1 r]
  have e := each_vals rv
  refine PySem.W.sorted_data (R := fun v (b : V × Dt) => RelV b.1 v) (enc := fun b => py b.2) hl.isList e (each_reads I hd e) hal hso (by rw [List.length_map] at hz; exact hz) (fun b hb => by have := hdp b hb; omega) fun out ho eo => ?_
  obtain ⟨ep, he'⟩ := PyProof.Rows.sortedAll_at s.heap its (List.toArray out)
  have hlen : ((bs.mergeSort (PySem.W.dataLe false fun b => py b.2)).map (·.1)).length ≤ sizeLine := by
    rw [List.length_map, List.length_mergeSort]
    rw [List.length_map] at hz
    exact hz
  exact ⟨.ref _, upd H (s.heap.objs.size + 1) (.lst ((bs.mergeSort (PySem.W.dataLe false fun b => py b.2)).map (·.1))), I.laid (t' := s.toks) (fun _ _ => PyProof.Rows.sortedAll_old) (Nat.le_succ _) ⟨hlen, out, ep, vals_each eo, he'⟩, rfl, q _ (I.hok.fresh (Nat.le_succ _))⟩
/-- sorted(xs), data -/
def qSortD : QC := fun ds S Q => ∃ (d : Dt) (es : List Dt), ds = [d] ∧ asL S d = some es ∧ (∀ e, e ∈ es → Ok0 60 e) ∧ PySem.W.AllAlike (es.map py) ∧ PySem.W.Sortable (es.map py) ∧ newL (es.mergeSort (PySem.W.dataLe false py)) S Q
theorem rps_zip {K : PySem.W.Frag} {I : Hp} : ∀ {ds : List Dt} {xs : List V}, Rps K I ds xs → (xs.zip ds).map (·.1) = xs ∧ (xs.zip ds).map (·.2) = ds ∧ ∀ b, b ∈ xs.zip ds → Rp K I b.2 b.1
  | [], _, h => by cases (show _ = [] from h); exact ⟨rfl, rfl, fun b hb => nomatch hb⟩
  | d :: ds, _, h => by
    obtain ⟨v, us, e, h1, h2⟩ := h
    subst e
    obtain ⟨a1, a2, a3⟩ := rps_zip h2
    refine ⟨by rw [List.zip_cons_cons, List.map_cons, a1], by rw [List.zip_cons_cons, List.map_cons, a2], fun b hb => ?_⟩
    rcases List.mem_cons.mp hb with e | hb
    · subst e
      exact h1
    · exact a3 b hb
theorem rps_maps {K : PySem.W.Frag} {I : Hp} : ∀ {bs : List (V × Dt)}, (∀ b, b ∈ bs → Rp K I b.2 b.1) → Rps K I (bs.map (·.2)) (bs.map (·.1))
  | [], _ => rfl
  | b :: bs, h => ⟨b.1, bs.map (·.1), rfl, h b List.mem_cons_self, rps_maps fun c hc => h c (List.mem_cons_of_mem _ hc)⟩
theorem c_sortD (hu : X.A.units + 64 < cLine) : C2 X (.builtin "sorted") qSortD := ⟨fun ds S Q Q' hq ⟨d, es, e, h, o, h1, h2, q⟩ => ⟨d, es, e, h, o, h1, h2, newL.mono hq q⟩, _, cr_sortD hu, fun ds vs S H Q w r ⟨d, es, e, h, o, hal, hso, q⟩ => by
  subst e
  obtain ⟨u, e1, r1⟩ := rps1 r
  obtain ⟨a, xs, e2, h1, h2⟩ := asL_ok w r1 h
  subst e2
  obtain ⟨z1, z2, z3⟩ := rps_zip h2
  have zm : ∀ b, b ∈ xs.zip es → b.2 ∈ es := fun b hb => by
    rw [← z2]
    exact List.mem_map_of_mem hb
  have ez : (xs.zip es).map (fun b => py b.2) = es.map py := by
    rw [← z2, List.map_map, z2]
    rfl
  refine ⟨a, xs.zip es, e1, by rw [z1]; exact h1, fun b hb => Rp.dp wo_le (o _ (zm b hb)) (z3 b hb), by rw [ez]; exact hal, by rw [ez]; exact hso, fun b hb => (o _ (zm b hb)).depth, fun p hp => ?_⟩
  have em : ((xs.zip es).mergeSort (PySem.W.dataLe false fun b => py b.2)).map (·.2) = es.mergeSort (PySem.W.dataLe false py) :=
    (List.map_mergeSort (r := PySem.W.dataLe false fun b : V × Dt => py b.2) (s := PySem.W.dataLe false py) (f := fun b : V × Dt => b.2) (l := xs.zip es) (fun a _ b _ => rfl)).trans (by rw [z2])
  refine newL.run ⟨Same.refl _, w⟩ ?_ q hp
  rw [← em]
  exact rps_maps fun b hb => z3 b ((List.mergeSort_perm _ _).mem_iff.mp hb)⟩
/-- x in a list of data -/
def qInD : QO := fun d e S Q => ∃ es, asL S e = some es ∧ (∃ n, n ≤ 60 ∧ Ok0 n d) ∧ (∀ z, z ∈ es → Ok0 60 z) ∧ ∀ b : Bool, (b = true ↔ d ∈ es) → Q (.bl b) S
theorem any_mem {n : Nat} {d : Dt} (hd : Ok0 n d) : ∀ {es : List Dt}, (∀ z, z ∈ es → Ok0 60 z) → ((pys es).any (fun z => PyData.eqv z (py d)) = true ↔ d ∈ es)
  | [], _ => by simp [pys]
  | e :: es, h => by
    rw [pys, List.any_cons, Bool.or_eq_true, any_mem hd fun z hz => h z (List.mem_cons_of_mem _ hz), (h e List.mem_cons_self).eqv hd, List.mem_cons]
    exact ⟨fun z => z.imp (fun e => e.symm) id, fun z => z.imp (fun e => e.symm) id⟩
theorem o_inD (hu : X.A.units + 65 < cLine) : O2 X (compareOp .In) qInD := ⟨fun d e S Q Q' hq ⟨es, h1, h2, h3, q⟩ => ⟨es, h1, h2, h3, fun b hb => hq _ _ (q b hb)⟩, _, op_inD hu, fun d e v u S H Q w r1 r2 ⟨es, h1, ⟨n, hn, h2⟩, h3, q⟩ => by
  obtain ⟨a, xs, e1, k1, k2⟩ := asL_ok w r2 h1
  subst e1
  have ol : Ok0 61 (.lst es) := .lst h3
  have dl : Dp X.K H (.ref a) (py (.lst es)) := by
    rw [py]
    exact .lst k1 (Rps.dp wo_le (fun z hz => ⟨_, h3 z hz⟩) k2)
  have sl := ol.shaped (by decide)
  rw [py] at dl sl
  exact ⟨_, _, Rp.dp wo_le h2 r1, dl, h2.shaped (by omega), sl, q _ (any_mem h2 h3) _ H ⟨Same.refl _, w⟩ rfl⟩⟩
/-- l += m, both lists that may change -/
def qExtL : QO := fun d e S Q => ∃ a b ds es, d = .ref a ∧ e = .ref b ∧ S a = some (.lst ds) ∧ S b = some (.lst es) ∧ ds.length + es.length ≤ 100000 ∧ Q (.ref a) (S.put a (.lst (ds ++ es)))
theorem o_iaddL : O2 X (inplaceOp .Add) qExtL := ⟨fun d e S Q Q' hq ⟨a, b, ds, es, h1, h2, h3, h4, h5, q⟩ => ⟨a, b, ds, es, h1, h2, h3, h4, h5, hq _ _ q⟩, _, iop_ext, fun d e v u S H Q w r1 r2 ⟨a, b, ds, es, h1, h2, h3, h4, h5, q⟩ => by
  subst h1 h2
  obtain ⟨xs, k1, k2⟩ := w a _ h3
  obtain ⟨ys, k3, k4⟩ := w b _ h4
  have hS : S a ≠ none ∨ H a = none := .inl (by rw [h3]; intro z; cases z)
  cases (show v = _ from r1)
  cases (show u = _ from r2)
  refine ⟨a, b, xs, ys, rfl, rfl, k1, k3, by rw [k2.length, k4.length]; exact size_le h5, q _ _ ⟨?_, put_wd w hS ⟨_, upd_same, k2.app k4⟩⟩ rfl⟩
  rw [put_wo _ hS]
  exact Same.refl _⟩
end
end Sc

/-! a comprehension over a list that may change, though not while it is gone through -/
namespace Sc
open PySem PySem.Spec PyProof.Rows L2 Sm
def YieldsC (K : PySem.W.Frag) (J : It) (a : Addr) (items : List Dt) (S1 : Cells) (H1 : Hp) : Prop := ∀ S H, Step K S1 H1 S H → S a = some (.lst items) →
  (∀ i, i < items.length → J.go i H) ∧ (∀ i, items.length ≤ i → J.stop i H) ∧ ∀ i v H' d, J.yld i H v H' → items[i]? = some d → Step K S H S H' ∧ Rp K (wo S H') d v
section
variable {X : Cx} {W : WX} {a b c e elt : Expr} {es : List Expr} {Ta Tb Tc Te : TE2} {Tt Tu : TT2} {TA : TA2} {pos : Pos} {st : Stmt} {rest body : List Stmt} {T U : TS2}
def dItC (Te : TE2) : XK2 → Ds → Cells → (Addr → List Dt → Cells → Prop) → Prop := fun x ds S Q => Te x ds S fun d S1 => ∃ q es, d = .ref q ∧ S1 q = some (.lst es) ∧ Q q es S1
def dCompC (G : TG2) (Tt : TT2) (Te : TE2) (p : Addr) (ds : Ds) (Q : QE) (q : Addr) (its : List Dt) : List Dt → List Dt → Cells → Prop
  | [], acc, S => S q = some (.lst its) ∧ S p = some (.lst acc) ∧ (Q (.lst acc) (S.del p) ∨ Q (.ref p) S)
  | d :: r, acc, S => S q = some (.lst its) ∧ G d ds S fun ds2 S2 => Tt x0 ds2 S2 fun k S3 => if k = true then Te x0 ds2 S3 fun y S4 => S4 p = some (.lst acc) ∧ acc.length < 100000 ∧ dCompC G Tt Te p ds Q q its r (acc ++ [y]) (S4.put p (.lst (acc ++ [y]))) else dCompC G Tt Te p ds Q q its r acc S3
theorem dCompC.mono {G : TG2} (gm : ∀ d ds S Q Q', (∀ d S', Q d S' → Q' d S') → G d ds S Q → G d ds S Q') (tm : ∀ x ds S Q Q', (∀ d S', Q d S' → Q' d S') → Tt x ds S Q → Tt x ds S Q') (em : ∀ x ds S Q Q', (∀ d S', Q d S' → Q' d S') → Te x ds S Q → Te x ds S Q')
    {p : Addr} {ds : Ds} {Q Q' : QE} {q : Addr} {its : List Dt} (h : ∀ d S', Q d S' → Q' d S') : ∀ items acc S, dCompC G Tt Te p ds Q q its items acc S → dCompC G Tt Te p ds Q' q its items acc S
  | [], acc, S, ⟨e0, e, z⟩ => ⟨e0, e, z.imp (h _ _) (h _ _)⟩
  | d :: r, acc, S, ⟨e0, z⟩ => ⟨e0, gm _ _ _ _ _ (fun ds2 S2 q2 => tm _ _ _ _ _ (fun k S3 q3 => ite_mono q3 (fun q3 => em _ _ _ _ _ (fun y S4 q4 => ⟨q4.1, q4.2.1, dCompC.mono gm tm em h r _ _ q4.2.2⟩) q3) (fun q3 => dCompC.mono gm tm em h r _ _ q3)) q2) z⟩
def dLcC (Te0 : TE2) (G : TG2) (Tt : TT2) (Te : TE2) : TE2 := fun x ds S Q => dItC Te0 x ds S fun q items S1 => ∀ p, S1 p = none → dCompC G Tt Te p ds Q q items items [] (S1.put p (.lst []))
theorem lcC_lift {g : TG} {G : TG2} {vs : List Nat} {ta : TE} (hG : CG2 X.K vs g G) (tm : ∀ x ds S Q Q', (∀ d S', Q d S' → Q' d S') → Tt x ds S Q → Tt x ds S Q') (em : ∀ x ds S Q Q', (∀ d S', Q d S' → Q' d S') → Te x ds S Q → Te x ds S Q')
    (im : ∀ x ds S Q Q', (∀ d S', Q d S' → Q' d S') → Ta x ds S Q → Ta x ds S Q') (ri : ∀ x ds S σ H Q, Here X.K W x ds S σ H → Ta x ds S (up X.K S H Q) → ta σ H Q) :
    ∀ x ds S σ H Q, Here X.K W x ds S σ H → dLcC Ta G Tt Te x ds S (up X.K S H Q) → tLc (iList X.K ta) g (cT X.K W0 Tt) (cE X.K W0 Te) vs σ H Q := fun x ds S σ H Q h q => by
  refine ri x ds S σ H _ h (im x ds S _ _ (fun d S1 ⟨qa, items, ed, hS1, q⟩ v H1 s1 r1 => ?_) q)
  subst ed
  cases (show v = _ from r1)
  obtain ⟨xs0, k1, k2⟩ := s1.wd qa _ hS1
  have y : YieldsC X.K (Itl X.K qa) qa items S1 H1 := fun S2 H2 s2 e2 => by
    obtain ⟨xs, g1, g2⟩ := s2.wd qa _ e2
    refine ⟨fun i hi => ?_, fun i hi => ⟨xs, SqL.of g1, by rw [g2.length]; exact hi⟩, fun i v H' d hy hd => ?_⟩
    · have hi' : i < xs.length := by rw [g2.length]; exact hi
      exact ⟨xs, xs[i], SqL.of g1, List.getElem?_eq_getElem hi'⟩
    · obtain ⟨e3, hv⟩ := hy
      subst e3
      obtain ⟨u, k3, k4⟩ := g2.get hd
      have := (hv xs (SqL.of g1)).symm.trans k3
      cases this
      exact ⟨⟨Same.refl _, s2.wd⟩, k4⟩
  refine ⟨qa, rfl, ⟨xs0, SqL.of k1⟩, ?_⟩
  intro D hD
  have hwo := put_wo (S := S1) (H := H1) (p := D) (o := .lst []) (.lst []) (.inr hD)
  have sD : Step X.K S1 H1 (S1.put D (.lst [])) (upd H1 D (.lst [])) := ⟨by rw [hwo]; exact Same.refl _, put_wd s1.wd (.inr hD) ⟨[], upd_same, rfl⟩⟩
  refine ⟨fun i m H' => ∃ S' acc, Step X.K S1 H1 S' H' ∧ m = items.length - i ∧ i ≤ items.length ∧ dCompC G Tt Te D ds (up X.K S H Q) qa items (items.drop i) acc S', ⟨items.length, _, [], sD, rfl, Nat.zero_le _, q D (s1.wd.free hD)⟩, fun i m H' ⟨S', acc, s', em', hi, q'⟩ => ?_⟩
  by_cases hlt : i < items.length
  · rw [List.drop_eq_getElem_cons hlt] at q'
    obtain ⟨e0, q'⟩ := q'
    obtain ⟨y1, y2, y3⟩ := y S' H' s' e0
    refine .inr ⟨y1 i hlt, fun H2 => ∃ S2 acc, Step X.K S1 H1 S2 H2 ∧ dCompC G Tt Te D ds (up X.K S H Q) qa items (items.drop (i + 1)) acc S2, fun H2 ⟨S2, acc2, s2, q2⟩ => ⟨items.length - (i + 1), by omega, S2, acc2, s2, rfl, hlt, q2⟩, fun v H2 hy => ?_⟩
    obtain ⟨s2, r2⟩ := y3 i v H2 _ hy (List.getElem?_eq_getElem hlt)
    have h2 : Here X.K W0 x0 ds S' σ H2 := ⟨h.rs.mono (s1.trans (s'.trans s2)).same, s2.wd, fun _ _ _ z => z.elim⟩
    refine hG.run _ v W0 x0 ds S' σ H2 _ h2 r2 (hG.mono _ _ _ _ _ (fun ds3 S3 q3 σ3 H3 s3 rs3 => ?_) q')
    have h3 : Here X.K W0 x0 ds3 S3 σ3 H3 := ⟨rs3, s3.wd, fun _ _ _ z => z.elim⟩
    refine ⟨x0, ds3, S3, h3, tm _ _ _ _ _ (fun k S4 q4 H4 s4 => ?_) q3⟩
    have s14 := (s'.trans s2).trans (s3.trans s4)
    refine ite_mono q4 (fun q4 => ?_) (fun q4 => ⟨S4, acc, s14, q4⟩)
    refine ⟨x0, ds3, S4, h3.step s4, em _ _ _ _ _ (fun y S5 ⟨e5, l5, q5⟩ u H5 s5 r5 => ?_) q4⟩
    obtain ⟨accV, k1, k2⟩ := s5.wd D _ e5
    have hS : S5 D ≠ none ∨ H5 D = none := .inl (by rw [e5]; intro z; cases z)
    refine ⟨accV, k1, by rw [k2.length]; exact Nat.lt_of_lt_of_le l5 (by decide), S5.put D (.lst (acc ++ [y])), acc ++ [y], (s14.trans s5).trans ⟨?_, put_wd s5.wd hS ⟨_, upd_same, k2.app (Rps.one r5)⟩⟩, q5⟩
    rw [put_wo _ hS]
    exact Same.refl _
  · have e : i = items.length := by omega
    subst e
    rw [List.drop_length] at q'
    obtain ⟨e0, e5, q5⟩ := q'
    obtain ⟨y1, y2, y3⟩ := y S' H' s' e0
    refine .inl ⟨y2 _ (Nat.le_refl _), ?_⟩
    rcases q5 with q5 | q5
    · exact q5 _ _ ((s1.trans s').trans ⟨froz_same, froz_wd s'.wd⟩) (froz_at s'.wd e5)
    · exact q5 _ _ (s1.trans s') rfl
theorem e_lcC {g : TG} {G : TG2} {tg iter : Expr} {ifs : List Expr} {scope : Scope} {own : List (Str × Nat)} (hc : X.calm = true) (hN : X.N.Nodup) (hi : E2 X W iter Ta) (ok : BlkOk X.N X.env.scope scope own) (hG : CG2 X.K (own.map (·.2)) g G)
    (hg : ∀ (s : Shared) (H : Hp) (C : Addr) (cl : List (Str × Addr)) (fp : List Addr), PG (X.blk s H scope (compEnvC scope cl C X.env) fp) tg g) (ht : ∀ (s : Shared) (H : Hp) (C : Addr) (cl : List (Str × Addr)) (fp : List Addr), F2 (X.blk s H scope (compEnvC scope cl C X.env) fp) ifs Tt)
    (he : ∀ (s : Shared) (H : Hp) (C : Addr) (cl : List (Str × Addr)) (fp : List Addr), E2 (X.blk s H scope (compEnvC scope cl C X.env) fp) W0 elt Te) (hs : ∀ x, foldedSetIterable iter X.env x = pure x := by intro _; rfl) :
    E2 X W (.ListComp elt [⟨tg, iter, ifs, 0⟩] scope pos) (dLcC Ta G Tt Te) := ⟨fun x ds S Q Q' h q => hi.mono _ _ _ _ _ (fun d S1 ⟨qa, es, e1, e2, q⟩ => ⟨qa, es, e1, e2, fun p hp => dCompC.mono hG.mono (ht X.s_0 X.H_0 0 [] []).mono (he X.s_0 X.H_0 0 [] []).mono h _ [] _ (q p hp)⟩) q, by
  obtain ⟨ta, pa, ra⟩ := hi.run
  refine ⟨_, pe_lc hc hN (pi_list pa) ok hg (fun s H C cl fp => (ht s H C cl fp).run) (fun s H C cl fp => (he s H C cl fp).canon) hs, lcC_lift hG (ht X.s_0 X.H_0 0 [] []).mono (he X.s_0 X.H_0 0 [] []).mono hi.mono ra⟩⟩
/-- such a comprehension, each item told, nothing changed -/
theorem comp_mapC {G : TG2} {Te : TE2} {p : Addr} {ds : Ds} {Q : QE} {q : Addr} {its : List Dt} (g : Dt → Dt) (hpq : q ≠ p) : ∀ (items acc : List Dt) (S : Cells), S q = some (.lst its) → acc.length + items.length < 100000 →
    (∀ d, d ∈ items → ∀ (S : Cells) (R : QE), R (g d) S → G d ds S fun ds2 S2 => Te x0 ds2 S2 R) → newL (acc ++ items.map g) S Q → S p = none → dCompC G dYes Te p ds Q q its items acc (S.put p (.lst acc))
  | [], acc, S, e0, _, h, z, hp => ⟨by rw [Cells.put_ne hpq]; exact e0, Cells.put_same, by
    rcases z with z | z
    · refine .inl ?_
      rw [del_put hp]
      simpa using z
    · exact .inr (by simpa using z p hp)⟩
  | d :: r, acc, S, e0, hl, h, z, hp => ⟨by rw [Cells.put_ne hpq]; exact e0, by
    have hl' : acc.length + (r.length + 1) < 100000 := hl
    refine h d List.mem_cons_self _ (fun y S4 => S4 p = some (.lst acc) ∧ acc.length < 100000 ∧ dCompC G dYes Te p ds Q q its r (acc ++ [y]) (S4.put p (.lst (acc ++ [y])))) ⟨Cells.put_same, by omega, ?_⟩
    rw [Cells.put_put]
    exact comp_mapC g hpq r (acc ++ [g d]) S e0 (by rw [List.length_append, List.length_singleton]; omega) (fun e he => h e (List.mem_cons_of_mem _ he)) (by simpa using z) hp⟩
theorem comp_newC {G : TG2} {Te : TE2} {ds : Ds} {Q : QE} {q : Addr} {its : List Dt} {S : Cells} (g : Dt → Dt) (e0 : S q = some (.lst its)) (hl : its.length < 100000)
    (h : ∀ d, d ∈ its → ∀ (S : Cells) (R : QE), R (g d) S → G d ds S fun ds2 S2 => Te x0 ds2 S2 R) (z : newL (its.map g) S Q) : ∀ p, S p = none → dCompC G dYes Te p ds Q q its its [] (S.put p (.lst [])) := fun p hp =>
  comp_mapC g (fun e => by subst e; rw [e0] at hp; cases hp) its [] S e0 (by simpa using hl) h z hp
/-- tuple(range(n)) -/
def dTupleR1 (Te : TE2) : TE2 := fun x ds S Q => Te x ds S fun d S1 => ∃ n, d = .int n ∧ -1000000 ≤ n ∧ n ≤ 1000000 ∧ Q (.tup (rng 0 n.toNat)) S1
theorem e_tupleR1 {p p2 pos2 : Pos} (hm : X.mg "tuple" = none) (hm2 : X.mg "range" = none) (he : E2 X W e Te) (hc : X.calm = true := by rfl) (hg : Gl X "tuple" := by rfl) (hg2 : Gl X "range" := by rfl)
    (n1 : starEach [e] X.env = (false, eval e X.env) :: starEach [] X.env := by rfl) (n2 : starEach [Expr.Call (.Name "range" p2) [e] [] pos2] X.env = (false, eval (Expr.Call (.Name "range" p2) [e] [] pos2) X.env) :: starEach [] X.env := by rfl) :
    E2 X W (.Call (.Name "tuple" p) [.Call (.Name "range" p2) [e] [] pos2] [] pos) (dTupleR1 Te) := ⟨fun x ds S Q Q' h p =>
    he.mono x ds S _ _ (fun d S1 ⟨n, e, h1, h2, q⟩ => ⟨n, e, h1, h2, h _ _ q⟩) p, by
  obtain ⟨t, p, r⟩ := he.run
  refine ⟨_, pe_tupRg hc hg hm (prg_1 hg2 hm2 p n1) n2, fun x ds S σ H Q h q => r x ds S σ H _ h (he.mono x ds S _ _ (fun d S1 ⟨n, e, h1, h2, q⟩ v H1 s1 r1 => ?_) q)⟩
  subst e
  cases (show v = _ from r1)
  refine ⟨n, rfl, ⟨by decide, by decide, by omega, by omega, by omega⟩, fun l hl => ?_⟩
  have z := rng_rps (K := X.K) (I := wo S1 H1) (a := 0) (b := n)
  rw [Int.sub_zero] at z
  have sm := new_same (o := .tup (rgV 0 n)) s1.wd hl
  exact q _ _ (s1.trans ⟨sm, new_wd s1.wd hl⟩) ⟨l, rgV 0 n, rfl, SqT.of (new_at s1.wd hl), z.mono sm⟩⟩
end
end Sc

namespace Sc
open PySem PySem.Spec PyProof.Rows L2 Sm
local macro_rules | `(tactic| walk_at "wp") => `(tactic| simp only [dRevT, dRevL, dEnumT, qRepA, qRepL, qCatL, qIn, qNotIn, dListR1, dListR2, dRet, dSeq, dIfS, dNext, dDrop, dSet, dAsg, dPar, dPar3, dAug, dVar, dC, dOp, dUn, dTest, dTru, dNot, dAnd, dOr, dAndV, dOrV, dNotV, dIf, dChain, dCall, dCons, dNil, dCB, dTup, dLst, dIsi, dStore, kSub, dYes, dFor, dIt, dItL, dRng1, dRng2, dSl, dNoP, dPart, dMt, dRaise,
  qI, qI0, qAdd, qSub, qMul, qFdiv, qFdivN, qMod, qPow, qLt, qLe, qGt, qGe, qEq, qNe, qIsN, qNotN, qIsB, qNotB, qNeg, qAbs, qMax2, qMin2, qLen, qIx, qTupOf, qLstOf, qSlT, qSlL, qCatT, qRepT, kName, kTup, kCons, kNil, start2, List.map_cons, List.map_nil, List.length_cons, List.length_nil, List.replicate, List.cons_append, List.nil_append, List.append_nil,
  List.getElem?_cons_zero, List.getElem?_cons_succ, List.set_cons_zero, List.set_cons_succ, Option.some.injEq, exists_eq_left', exists_eq_left, Dt.int.injEq, Dt.bl.injEq, Dt.ref.injEq, Dt.tup.injEq, Dt.lst.injEq, Nat.sub_zero, Nat.zero_add, Nat.reduceAdd, Nat.reduceSub, asQ_tup, asQ_lst, asL_lst, asT_tup, asQ_put, asL_put, exists_and_left, List.cons.injEq, and_true, isN_int, isN_non, truD_int, truD_non, at_0, at_1, at_2, ix20, ix21, Cells.put_same, Cells.put_put, Cell.lst.injEq, sEq_ii, sEq_bb, sEq_ss, sEq_nn, sEq_ni, sEq_in, true_and, decide_eq_true_eq, and_assoc])

/-! ### the parts of a chain -/
def partsN : Nat → List (List Int)
  | 0 => [[]]
  | i + 1 => partsN i ++ (partsN i).map fun p => p ++ [(i : Int)]
def intsN (n : Nat) : List Int := (List.range n).map fun (i : Nat) => (i : Int)
theorem intsN_succ (n : Nat) : intsN (n + 1) = intsN n ++ [(n : Int)] := by
  unfold intsN
  rw [List.range_succ, List.map_append]
  rfl
theorem part_in (f : Int → Bool) : ∀ n, (intsN n).filter f ∈ partsN n
  | 0 => List.mem_cons_self
  | n + 1 => by
    rw [intsN_succ, List.filter_append]
    have ih := part_in f n
    show _ ∈ partsN n ++ _
    rw [List.mem_append]
    by_cases h : f (n : Int) = true
    · refine .inr (List.mem_map.mpr ⟨_, ih, ?_⟩)
      rw [List.filter_cons_of_pos h]
      rfl
    · refine .inl ?_
      rw [List.filter_cons_of_neg h, List.filter_nil, List.append_nil]
      exact ih
theorem part_fit : ∀ {n : Nat} {p : List Int}, p ∈ partsN n → p.length ≤ n ∧ ∀ i, i ∈ p → 0 ≤ i ∧ i < n
  | 0, p, h => by
    have h : p = [] := by simpa [partsN] using h
    subst h
    exact ⟨Nat.le_refl _, fun i hi => nomatch hi⟩
  | n + 1, p, h => by
    rcases List.mem_append.mp (show p ∈ partsN n ++ (partsN n).map (fun p => p ++ [(n : Int)]) from h) with h | h
    · obtain ⟨h1, h2⟩ := part_fit h
      exact ⟨by omega, fun i hi => by have := h2 i hi; omega⟩
    · obtain ⟨r, hr, rfl⟩ := List.mem_map.mp h
      obtain ⟨h1, h2⟩ := part_fit hr
      refine ⟨by rw [List.length_append, List.length_singleton]; omega, fun i hi => ?_⟩
      rcases List.mem_append.mp hi with hi | hi
      · have := h2 i hi
        omega
      · rw [List.mem_singleton.mp hi]
        omega
theorem parts_len (n : Nat) : (partsN n).length = 2 ^ n := by
  induction n with
  | zero => rfl
  | succ n ih =>
    show (partsN n ++ (partsN n).map fun p => p ++ [(n : Int)]).length = _
    rw [List.length_append, List.length_map, ih, Nat.pow_succ]
    omega
def dIx (p : List Int) : Dt := .tup (p.map Dt.int)
def encR (p : List Int) : Dt := .tup [.int (p.length : Int), dIx p]
def leP (p q : List Int) : Bool := PySem.W.dataLe false py (encR p) (encR q)
def sortedP (n : Nat) : List (List Int) := (partsN n).mergeSort leP
theorem sortedP_eq (n : Nat) : ((partsN n).map encR).mergeSort (PySem.W.dataLe false py) = (sortedP n).map encR := (List.map_mergeSort (r := leP) (s := PySem.W.dataLe false py) (f := encR) (l := partsN n) (fun a _ b _ => rfl)).symm
theorem sortedP_mem {n : Nat} {p : List Int} : p ∈ sortedP n ↔ p ∈ partsN n := (List.mergeSort_perm _ _).mem_iff
theorem dIx_ok (p : List Int) : Ok0 1 (dIx p) := .tup fun d h => by
  obtain ⟨i, _, rfl⟩ := List.mem_map.mp h
  exact .int _ _
theorem Ok0.le {n m : Nat} {d : Dt} (h : Ok0 n d) (hm : n ≤ m) : Ok0 m d := by
  induction h generalizing m with
  | non => exact .non _
  | int => exact .int _ _
  | str n x h => exact .str _ _ h
  | tup h ih =>
    obtain ⟨k, rfl⟩ : ∃ k, m = k + 1 := ⟨m - 1, by omega⟩
    exact .tup fun d hd => ih d hd (by omega)
  | lst h ih =>
    obtain ⟨k, rfl⟩ : ∃ k, m = k + 1 := ⟨m - 1, by omega⟩
    exact .lst fun d hd => ih d hd (by omega)
theorem encR_ok (p : List Int) : Ok0 2 (encR p) := .tup fun d h => by
  rcases List.mem_cons.mp h with e | h
  · subst e
    exact .int _ _
  rw [List.mem_singleton.mp h]
  exact dIx_ok p
theorem pys_ints : ∀ p : List Int, pys (p.map Dt.int) = p.map .int
  | [] => by rw [List.map_nil, pys]; rfl
  | i :: p => by rw [List.map_cons, pys, pys_ints p, py]; rfl
theorem py_encR (p : List Int) : py (encR p) = .tuple [.int (p.length : Int), .tuple (p.map .int)] := by
  unfold encR dIx
  rw [py, pys, pys, pys, py, py, pys_ints]
theorem alike_encR (l : List (List Int)) : PySem.W.AllAlike ((l.map encR).map py) := by
  rw [List.map_map]
  refine PySem.W.AllAlike.of fun p q => ?_
  show PySem.W.alike (py (encR p)) (py (encR q)) = true
  rw [py_encR, py_encR]
  simp [PySem.W.alike, PySem.W.alikeAll, PySem.W.alike_ints]
theorem sortable_encR (l : List (List Int)) : PySem.W.Sortable ((l.map encR).map py) := by
  rw [List.map_map]
  exact PySem.W.Sortable.tuples fun p => ⟨_, _, py_encR p⟩
/-- the slices at these places -/
def subC (c : List Sl) (p : List Int) : List Sl := p.map fun i => c.getD i.toNat (none, none, 1)
def woC (c : List Sl) (i : Nat) : List Sl := c.take i ++ c.drop (i + 1)
def goodP (c : List Sl) (p : List Int) : Bool := (firstD (subC c p) c).isNone
def shortF (c : List Sl) : List Int := ((sortedP c.length).find? (goodP c)).getD []
theorem sub_ok {c : List Sl} (hc : okC c) {p : List Int} (hp : p ∈ partsN c.length) : okC (subC c p) := by
  obtain ⟨h1, h2⟩ := part_fit hp
  refine ⟨by have := hc.1; unfold subC; rw [List.length_map]; omega, fun s hs => ?_⟩
  obtain ⟨i, hi, rfl⟩ := List.mem_map.mp hs
  have := h2 i hi
  rw [List.getD_eq_getElem?_getD, List.getElem?_eq_getElem (by omega)]
  exact hc.2 _ (List.getElem_mem _)
theorem wo_ok {c : List Sl} (hc : okC c) (i : Nat) : okC (woC c i) := by
  refine ⟨?_, fun s hs => ?_⟩
  · have := hc.1
    unfold woC
    rw [List.length_append, List.length_take, List.length_drop]
    omega
  · rcases List.mem_append.mp hs with h | h
    · exact hc.2 _ (List.mem_of_mem_take h)
    · exact hc.2 _ (List.mem_of_mem_drop h)
theorem sub_wo {c : List Sl} (hc : c.length ≤ 4) {i : Nat} (hi : i < c.length) : subC c ((intsN c.length).filter fun j => decide (j ≠ (i : Int))) = woC c i := by
  match c, hc with
  | [], _ => exact absurd hi (Nat.not_lt_zero _)
  | [a], _ =>
    have : i = 0 := by simp at hi; omega
    subst this
    rfl
  | [a, b], _ =>
    have : i = 0 ∨ i = 1 := by simp at hi; omega
    rcases this with rfl | rfl <;> rfl
  | [a, b, d], _ =>
    have : i = 0 ∨ i = 1 ∨ i = 2 := by simp at hi; omega
    rcases this with rfl | rfl | rfl <;> rfl
  | [a, b, d, e], _ =>
    have : i = 0 ∨ i = 1 ∨ i = 2 ∨ i = 3 := by simp at hi; omega
    rcases this with rfl | rfl | rfl | rfl <;> rfl
  | a :: b :: d :: e :: f :: l, h => exact absurd h (by simp)
theorem sub_all {c : List Sl} (hc : c.length ≤ 4) : subC c ((intsN c.length).filter fun _ => true) = c := by
  match c, hc with
  | [], _ => rfl
  | [a], _ => rfl
  | [a, b], _ => rfl
  | [a, b, d], _ => rfl
  | [a, b, d, e], _ => rfl
  | a :: b :: d :: e :: f :: l, h => exact absurd h (by simp)
theorem search_none {p : Int → Bool} (h : ∀ i, p i = false) : ∀ (a : Int) (m : Nat), search p a m = none
  | _, 0 => rfl
  | a, m + 1 => by
    show (if p a = true then some a else search p (a + 1) m) = none
    rw [if_neg (by rw [h a]; decide), search_none h]
theorem firstD_self (c : List Sl) : firstD c c = none := search_none (fun i => by unfold unlike; simp) _ _
theorem all_good {c : List Sl} (hc : okC c) : ∃ p, p ∈ sortedP c.length ∧ goodP c p = true := ⟨_, sortedP_mem.mpr (part_in (fun _ => true) _), by unfold goodP; rw [sub_all hc.1, firstD_self]; rfl⟩
theorem find_first {α : Type} {f : α → Bool} {pre r : List α} {a : α} (h : ∀ x, x ∈ pre → f x = false) (ha : f a = true) : (pre ++ a :: r).find? f = some a := by
  rw [List.find?_append, List.find?_eq_none.mpr (fun x hx => by rw [h x hx]; decide)]
  simp [List.find?, ha]
/-! ### promises -/
def addD (i : Int) (d : Dt) : Dt := match d with
  | .tup l => .tup (l ++ [.int i])
  | d => d
def rowD (d : Dt) : Dt := match d with
  | .tup l => .tup [.int (l.length : Int), .tup l]
  | d => d
theorem parts_le {n : Nat} (h : n ≤ 4) : (partsN n).length ≤ 16 := by
  rw [parts_len]
  have : n = 0 ∨ n = 1 ∨ n = 2 ∨ n = 3 ∨ n = 4 := by omega
  rcases this with rfl | rfl | rfl | rfl | rfl <;> decide
theorem add_parts (i : Nat) : (partsN i).map dIx ++ ((partsN i).map dIx).map (addD (0 + (i : Int))) = (partsN (i + 1)).map dIx := by
  show _ = (partsN i ++ (partsN i).map fun p => p ++ [(i : Int)]).map dIx
  rw [List.map_append, List.map_map, List.map_map, Int.zero_add]
  congr 1
  refine List.map_congr_left fun p _ => ?_
  show Dt.tup (p.map Dt.int ++ [.int (i : Int)]) = Dt.tup ((p ++ [(i : Int)]).map Dt.int)
  rw [List.map_append]
  rfl
theorem row_parts (n : Nat) : ((partsN n).map dIx).map rowD = (partsN n).map encR := by
  rw [List.map_map]
  refine List.map_congr_left fun p _ => ?_
  show Dt.tup [.int ((p.map Dt.int).length : Int), dIx p] = Dt.tup [.int (p.length : Int), dIx p]
  rw [List.length_map]
def sp_without : Sp2 := psp (α := List Sl × Nat) (fun a => [dCh a.1, .int (a.2 : Int)]) (fun a => a.1.length ≤ 4 ∧ a.2 < a.1.length) (fun a => dCh (woC a.1 a.2))
def sp_needless : Sp2 := lsp (α := List Sl) (fun c => [dCh c]) (fun c => okC c) (fun c => (filI (fun i => (firstD (woC c i.toNat) c).isNone) c.length).map Dt.int)
def sp_shortest_part : Sp2 := psp (α := List Sl) (fun c => [dCh c]) (fun c => okC c) (fun c => dIx (shortF c))
def T_without : TS2 :=
  (dRet (dOp qCatT (dSl qSlT (dVar 0) dNoP (dPart (dVar 1))) (dSl qSlT (dVar 0) (dPart (dOp qAdd (dVar 1) (dC (.int 1)))) dNoP)))
theorem pure_without : Pure 2 sp_without T_without := by
  rintro ds S Q E frg ⟨⟨c, i⟩, rfl, ⟨hl, hi⟩, q⟩
  have hl : c.length ≤ 4 := hl
  have hi : i < c.length := hi
  unfold T_without dCh
  walk_at "wp"
  rw [cutG_to, cutG_next]
  refine ⟨by rw [List.length_take, List.length_drop, List.length_map]; omega, ?_⟩
  have e : List.take i (c.map dS) ++ List.drop (i + 1) (c.map dS) = (woC c i).map dS := by
    unfold woC
    rw [List.map_append, List.map_take, List.map_drop]
  rw [e]
  exact q
def T_needless : TS2 :=
  (dSeq (dDrop (dCall sp_require_chain (dCons (dVar 0) dNil)))
  (dRet (dLc (dRng1 (dCB qLen (dCons (dVar 0) dNil))) (kName 1) (dTest (dCall sp_are_equal (dCons (dCall sp_without (dCons (dVar 0) (dCons (dVar 1) dNil))) (dCons (dVar 0) dNil)))) (dVar 1))))
theorem pure_needless : Pure 2 sp_needless T_needless := by
  rintro ds S Q E frg ⟨c, rfl, hc, q⟩
  have hc : okC c := hc
  have h4 := hc.1
  unfold T_needless dLc
  walk_at "wp"
  refine ⟨_, rfl, chain_req hc, ?_⟩
  unfold dCh
  walk_at "wp"
  rw [List.length_map, Int.toNat_natCast]
  refine ⟨by omega, by omega, ?_⟩
  refine comp_filI (fun i => (firstD (woC c i.toNat) c).isNone) Dt.int (by omega) (fun i hi S R1 R2 y n => ?_) q
  walk_at "wp"
  rw [Int.zero_add]
  rw [Int.toNat_natCast] at y n
  exact ⟨(c, i), rfl, ⟨h4, hi⟩, (woC c i, c), rfl, ⟨wo_ok hc i, hc⟩, _, rfl, ite2 (fun k => y k) (fun k => n (Bool.eq_false_iff.mpr k))⟩
def T_shortest_part : TS2 :=
  (dSeq (dDrop (dCall sp_require_chain (dCons (dVar 0) dNil)))
  (dSeq (dSet 1 (dLst (dCons (dTup dNil) dNil)))
  (dSeq (dFor (dRng1 (dCB qLen (dCons (dVar 0) dNil))) (kName 2) (dAug 1 qExtL (dLcC (dVar 1) (kName 4) dYes (dOp qCatT (dVar 4) (dTup (dCons (dVar 2) dNil))))))
  (dSeq (dFor (dItL (dCB qSortD (dCons (dLcC (dVar 1) (kName 4) dYes (dTup (dCons (dCB qLen (dCons (dVar 4) dNil)) (dCons (dVar 4) dNil)))) dNil))) (kTup 2 (kCons (kName 3) (kCons (kName 4) kNil))) (dIfS (dTest (dCall sp_are_equal (dCons (dCB qTupOf (dCons (dLc (dIt (dVar 4)) (kName 2) dYes (dOp qIx (dVar 0) (dVar 2))) dNil)) (dCons (dVar 0) dNil)))) (dRet (dVar 4)) dNext))
  (dRet (dTupleR1 (dCB qLen (dCons (dVar 0) dNil))))))))
theorem pure_shortest_part : Pure 5 sp_shortest_part T_shortest_part := by
  rintro ds S Q E frg ⟨c, rfl, hc, q⟩
  have hc : okC c := hc
  have h4 := hc.1
  have q : Q (dIx (shortF c)) S := q
  unfold T_shortest_part
  walk_at "wp"
  refine ⟨_, rfl, chain_req hc, by decide, by decide, .inr fun a ha => ?_⟩
  unfold dCh
  walk_at "wp"
  rw [List.length_map]
  refine ⟨by omega, by omega, ?_⟩
  rw [Int.toNat_natCast]
  refine loop_rng (fun i ds S2 => (S2 a = some (.lst ((partsN i).map dIx)) ∧ ∀ k, Q (dIx (shortF c)) (S2.put a k)) ∧ ∃ x2 x3 x4, ds = [some (.tup (c.map dS)), some (.ref a), x2, x3, x4]) ⟨⟨Cells.put_same, fun k => by rw [Cells.put_put]; exact frg.fg _ _ _ _ ha q⟩, _, _, _, rfl⟩ ?_ ?_
  · rintro i ds S2 N hi ⟨⟨e0, qq⟩, _, _, _, rfl⟩ hN
    unfold dLcC dItC
    walk_at "wp"
    have l2 := parts_le (n := i) (by omega)
    refine ⟨_, e0, comp_newC (addD (0 + (i : Int))) e0 (by rw [List.length_map]; omega) (fun d hd S3 R r => ?_) (.inr fun b hb => ?_)⟩
    · obtain ⟨p, hp, rfl⟩ := List.mem_map.mp hd
      have := (part_fit hp).1
      unfold dIx
      walk_at "wp"
      exact ⟨by decide, by rw [List.length_map]; omega, r⟩
    · have ne : a ≠ b := fun e => by
        subst e
        rw [e0] at hb
        cases hb
      refine ⟨a, b, _, _, rfl, rfl, by rw [Cells.put_ne ne]; exact e0, Cells.put_same, by simp only [List.length_map]; omega, hN _ _ ⟨⟨?_, fun k => ?_⟩, _, _, _, rfl⟩⟩
      · rw [Cells.put_same, add_parts]
      · rw [Cells.put_put, put_comm ne.symm]
        exact frg.fg _ _ _ _ (by rw [Cells.put_ne ne.symm]; exact hb) (qq k)
  · rintro ds S2 ⟨⟨e0, qq⟩, _, _, _, rfl⟩
    have q2 : Q (dIx (shortF c)) S2 := by
      have z := qq (.lst ((partsN c.length).map dIx))
      rw [put_self e0] at z
      exact z
    have l2 := parts_le (n := c.length) h4
    unfold dLcC dItC
    walk_at "wp"
    refine ⟨_, e0, comp_newC rowD e0 (by rw [List.length_map]; omega) (fun d hd S3 R r => ?_) (.inl ?_)⟩
    · obtain ⟨p, hp, rfl⟩ := List.mem_map.mp hd
      unfold dIx
      walk_at "wp"
      exact ⟨by decide, r⟩
    rw [row_parts]
    refine ⟨_, _, rfl, rfl, fun e he => ?_, alike_encR _, sortable_encR _, .inl ⟨_, rfl, ?_⟩⟩
    · obtain ⟨p, hp, rfl⟩ := List.mem_map.mp he
      exact (encR_ok p).le (by decide)
    rw [sortedP_eq]
    refine loop_rest encR (fun r ds S3 => (∃ pre, pre ++ r = sortedP c.length ∧ ∀ p, p ∈ pre → goodP c p = false) ∧ S3 = S2 ∧ ∃ x2 x3 x4, ds = [some (.tup (c.map dS)), some (.ref a), x2, x3, x4]) ?_ ?_ (sortedP c.length) _ _ ⟨⟨[], rfl, fun p h => nomatch h⟩, rfl, _, _, _, rfl⟩
    · rintro p r ds S3 N ⟨⟨pre, epre, hpre⟩, rfl, _, _, _, rfl⟩ hN
      have hp : p ∈ partsN c.length := sortedP_mem.mp (by rw [← epre]; exact List.mem_append_right _ List.mem_cons_self)
      have fit := part_fit hp
      unfold encR dLc
      walk_at "wp"
      refine ⟨_, rfl, comp_mapE Dt.int (fun i => dS (c.getD i.toNat (none, none, 1))) (by omega) (fun k hk S4 R r => ?_) (.inl ?_)⟩
      · walk_at "wp"
        have hk := fit.2 k hk
        obtain ⟨s, g1, g2, g3⟩ := at_get (l := c) (i := k) hk.1 (by omega)
        have es : c.getD k.toNat (none, none, 1) = s := by
          rw [List.getD_eq_getElem?_getD, g3]
          rfl
        rw [es] at r
        exact ⟨_, at_mapG g1, r⟩
      · have em : p.map (fun i => dS (c.getD i.toNat (none, none, 1))) = (subC c p).map dS := by
          unfold subC
          rw [List.map_map]
          rfl
        refine ⟨_, rfl, (subC c p, c), ?_, ⟨sub_ok hc hp, hc⟩, _, rfl, ite2 (fun k => ?_) (fun k => ?_)⟩
        · show [Dt.tup _, Dt.tup _] = [dCh (subC c p), dCh c]
          rw [em]
          rfl
        · have e : shortF c = p := by
            unfold shortF
            rw [← epre, find_first hpre k]
            rfl
          rw [← e]
          exact q2
        · refine hN _ _ ⟨⟨pre ++ [p], by rw [← epre, List.append_assoc]; rfl, fun x hx => ?_⟩, rfl, _, _, _, rfl⟩
          rcases List.mem_append.mp hx with hx | hx
          · exact hpre x hx
          · rw [List.mem_singleton.mp hx]
            exact Bool.eq_false_iff.mpr k
    · rintro ds S3 ⟨⟨pre, epre, hpre⟩, rfl, _, _, _, rfl⟩
      obtain ⟨p, h1, h2⟩ := all_good hc
      rw [List.append_nil] at epre
      rw [← epre] at h1
      rw [hpre p h1] at h2
      cases h2
end Sc

namespace Sc
open PySem PySem.Spec PyProof.Rows L2 Sm
local macro_rules | `(tactic| walk_at "wp") => `(tactic| simp only [dRevT, dRevL, dEnumT, qRepA, qRepL, qCatL, qIn, qNotIn, dListR1, dListR2, dRet, dSeq, dIfS, dNext, dDrop, dSet, dAsg, dPar, dPar3, dAug, dVar, dC, dOp, dUn, dTest, dTru, dNot, dAnd, dOr, dAndV, dOrV, dNotV, dIf, dChain, dCall, dCons, dNil, dCB, dTup, dLst, dIsi, dStore, kSub, dYes, dFor, dIt, dItL, dRng1, dRng2, dSl, dNoP, dPart, dMt, dRaise,
  qI, qI0, qAdd, qSub, qMul, qFdiv, qFdivN, qMod, qPow, qLt, qLe, qGt, qGe, qEq, qNe, qIsN, qNotN, qIsB, qNotB, qNeg, qAbs, qMax2, qMin2, qLen, qIx, qTupOf, qLstOf, qSlT, qSlL, qCatT, qRepT, kName, kTup, kCons, kNil, start2, List.map_cons, List.map_nil, List.length_cons, List.length_nil, List.replicate, List.cons_append, List.nil_append, List.append_nil,
  List.getElem?_cons_zero, List.getElem?_cons_succ, List.set_cons_zero, List.set_cons_succ, Option.some.injEq, exists_eq_left', exists_eq_left, Dt.int.injEq, Dt.bl.injEq, Dt.ref.injEq, Dt.tup.injEq, Dt.lst.injEq, Nat.sub_zero, Nat.zero_add, Nat.reduceAdd, Nat.reduceSub, asQ_tup, asQ_lst, asL_lst, asT_tup, asQ_put, asL_put, exists_and_left, List.cons.injEq, and_true, isN_int, isN_non, truD_int, truD_non, at_0, at_1, at_2, ix20, ix21, Cells.put_same, Cells.put_put, Cell.lst.injEq, sEq_ii, sEq_bb, sEq_ss, sEq_nn, sEq_ni, sEq_in, true_and, decide_eq_true_eq, and_assoc])


theorem room65 {u k : Nat} (h : u + k + 200 < cLine) : u + 65 < cLine := by omega
def sp__law_padded : Sp2 := bsp (α := Unit) (β := List Sl) (fun _ => []) (fun _ => True) (fun _ c => okC c) dCh
def sp__law_parts : Sp2 := lsp (α := Nat) (fun n => [.int (n : Int)]) (fun n => n ≤ 4) (fun n => (sortedP n).map dIx)
def T__law_padded : TS2 :=
  (dSeq (dSet 1 (dCall sp__law_chain (dCons (dVar 0) (dCons (dC (.int 2)) (dCons (dC (.int 3)) dNil)))))
  (dSeq (dFor (dRng1 (dC (.int 2))) (kName 2) (dSeq (dSet 3 (dCall sp__law_take (dCons (dVar 0) (dCons (dOp qAdd (dCB qLen (dCons (dVar 1) dNil)) (dC (.int 1))) dNil))))
  (dSeq (dSet 4 (dCall sp__law_of (dCons (dVar 0) (dCons (dLst (dCons (dTup (dCons (dC .non) (dCons (dC .non) (dCons (dC (.int 1)) dNil)))) (dCons (dTup (dCons (dC (.int 0)) (dCons (dC .non) (dCons (dC (.int 1)) dNil)))) (dCons (dTup (dCons (dC .non) (dCons (dC (.int 9)) (dCons (dC (.int 1)) dNil)))) (dCons (dTup (dCons (dC .non) (dCons (dC .non) (dCons (dUn qNeg (dC (.int 1))) dNil)))) (dCons (dCall sp__law_slice (dCons (dVar 0) (dCons (dC (.int 3)) dNil))) dNil)))))) dNil))))
  (dSet 1 (dOp qCatT (dOp qCatT (dSl qSlT (dVar 1) dNoP (dPart (dVar 3))) (dTup (dCons (dVar 4) dNil))) (dSl qSlT (dVar 1) (dPart (dVar 3)) dNoP))))))
  (dRet (dVar 1))))
theorem pure__law_padded : Pure 5 sp__law_padded T__law_padded := by
  rintro ds S Q E frg ⟨b, _, rfl, hb, _, q⟩
  unfold T__law_padded
  walk_at "wp"
  refine ⟨b, (2, 3), rfl, hb, ⟨by show (0 : Int) ≤ 2; decide, by show (2 : Int) ≤ 100; decide, by show (1 : Int) ≤ 3; decide, by show (3 : Int) ≤ 30; decide⟩, fun c0 x y k0 => ?_⟩
  have hc0 := chW_ok (by show (2 : Int) ≤ 4; decide) (by decide) k0
  have hl0 : (c0.length : Int) ≤ 2 := k0.1
  refine ⟨by decide, by decide, ?_⟩
  refine loop_rng (fun i ds S2 => Ext S b S2 ∧ ∃ c : List Sl, c.length ≤ 2 + i ∧ (∀ s, s ∈ c → okS s) ∧ ∃ x2 x3 x4, ds = [some (.ref b), some (dCh c), x2, x3, x4]) ⟨(Ext.base hb).draw, c0, by omega, hc0.2, _, _, _, rfl⟩ ?_ ?_
  · rintro i ds S2 N hi ⟨hx, c, hl, hs, _, _, _, rfl⟩ hN
    unfold dCh
    walk_at "wp"
    rw [List.length_map]
    refine ⟨b, (c.length : Int) + 1, rfl, hx.bag, ⟨by omega, by omega⟩, fun t x1 y1 ht => ⟨by decide, by decide, by decide, by decide, ?_⟩⟩
    have ht : 0 ≤ t ∧ t < (c.length : Int) + 1 := ht
    have hx1 := hx.draw (c := x1) (s := y1)
    refine ⟨b, 3, rfl, Bag.put, ⟨by show (1 : Int) ≤ 3; decide, by show (3 : Int) ≤ 30; decide⟩, fun s0 x2 y2 hs0 => ⟨by decide, .inl ?_⟩⟩
    have hx2 := hx1.draw (c := x2) (s := y2)
    refine ⟨b, _, rfl, Bag.put, ⟨by show 0 < 5; decide, by show 5 ≤ 100000; decide⟩, fun d x3 y3 hd => ?_⟩
    have hx3 := hx2.draw (c := x3) (s := y3)
    have k0 : okS s0 := slW_ok (w := 3) (by decide) hs0
    have l1 : okC [(none, none, 1), (some 0, none, 1), (none, some 9, 1), (none, none, -1)] := lit_ok (by decide) rfl
    obtain ⟨s, rfl, hs1⟩ : ∃ s : Sl, d = dS s ∧ okS s := by
      have hd : d ∈ [dS (none, none, 1), dS (some 0, none, 1), dS (none, some 9, 1), dS (none, none, -1), dS s0] := hd
      rcases List.mem_cons.mp hd with rfl | hd
      · exact ⟨_, rfl, l1.2 _ (by simp)⟩
      rcases List.mem_cons.mp hd with rfl | hd
      · exact ⟨_, rfl, l1.2 _ (by simp)⟩
      rcases List.mem_cons.mp hd with rfl | hd
      · exact ⟨_, rfl, l1.2 _ (by simp)⟩
      rcases List.mem_cons.mp hd with rfl | hd
      · exact ⟨_, rfl, l1.2 _ (by simp)⟩
      rw [List.mem_singleton.mp hd]
      exact ⟨_, rfl, k0⟩
    obtain ⟨j, rfl⟩ : ∃ j : Nat, t = (j : Int) := ⟨t.toNat, by omega⟩
    have hj : j ≤ c.length := by omega
    have e : cutG (c.map dS) none (some (j : Int)) ++ [dS s] ++ cutG (c.map dS) (some (j : Int)) none = (c.take j ++ [s] ++ c.drop j).map dS := by
      rw [cutG_to, cutG_from, List.map_append, List.map_append, List.map_take, List.map_drop]
      rfl
    refine ⟨_, rfl, by decide, ?_, _, rfl, ?_, ?_⟩
    · rw [cutG_to, List.length_take, List.length_map]
      omega
    · rw [cutG_to, cutG_from, List.length_append, List.length_take, List.length_drop, List.length_map, List.length_singleton]
      omega
    dsimp only [id]
    rw [e]
    refine hN _ _ ⟨hx3, c.take j ++ [s] ++ c.drop j, ?_, fun z hz => ?_, _, _, _, rfl⟩
    · rw [List.length_append, List.length_append, List.length_take, List.length_drop, List.length_singleton]
      omega
    · rcases List.mem_append.mp hz with hz | hz
      · rcases List.mem_append.mp hz with hz | hz
        · exact hs z (List.mem_of_mem_take hz)
        · rw [List.mem_singleton.mp hz]
          exact hs1
      · exact hs z (List.mem_of_mem_drop hz)
  · rintro ds S2 ⟨hx, c, hl, hs, _, _, _, rfl⟩
    walk_at "wp"
    exact hx.use Q _ frg.fg fun x y => q c x y ⟨by omega, hs⟩
def T__law_parts : TS2 :=
  (dSeq (dSet 1 (dLst (dCons (dTup dNil) dNil)))
  (dSeq (dFor (dRng1 (dVar 0)) (kName 2) (dSet 1 (dOp qCatL (dVar 1) (dLcC (dVar 1) (kName 3) dYes (dOp qCatT (dVar 3) (dTup (dCons (dVar 2) dNil)))))))
  (dRet (dLc (dItL (dCB qSortD (dCons (dLcC (dVar 1) (kName 3) dYes (dTup (dCons (dCB qLen (dCons (dVar 3) dNil)) (dCons (dVar 3) dNil)))) dNil))) (kName 4) dYes (dOp qIx (dVar 4) (dC (.int 1)))))))
theorem newL_gar {l : List Dt} {S : Cells} {Q : QE} {b : Addr} {k : Cell} (f : Fg Q) (hb : S b = none) (q : newL l S Q) : newL l (S.put b k) Q := by
  rcases q with q | q
  · exact .inl (f _ _ _ _ hb q)
  · refine .inr fun p hp => ?_
    have ne : p ≠ b := fun e => by
      subst e
      rw [Cells.put_same] at hp
      cases hp
    rw [Cells.put_ne ne] at hp
    rw [put_comm ne.symm]
    exact f _ _ _ _ (by rw [Cells.put_ne ne.symm]; exact hb) (q p hp)
theorem pure__law_parts : Pure 5 sp__law_parts T__law_parts := by
  rintro ds S Q E frg ⟨n, rfl, h4, q⟩
  have h4 : n ≤ 4 := h4
  have q : newL ((sortedP n).map dIx) S Q := q
  unfold T__law_parts
  walk_at "wp"
  refine ⟨by decide, by decide, .inr fun a ha => ⟨by omega, by omega, ?_⟩⟩
  rw [Int.toNat_natCast]
  refine loop_rng (fun i ds S2 => (∃ a, S2 a = some (.lst ((partsN i).map dIx)) ∧ ∃ x2 x3 x4, ds = [some (.int (n : Int)), some (.ref a), x2, x3, x4]) ∧ newL ((sortedP n).map dIx) S2 Q) ⟨⟨a, Cells.put_same, _, _, _, rfl⟩, newL_gar frg.fg ha q⟩ ?_ ?_
  · rintro i ds S2 N hi ⟨⟨a, e0, _, _, _, rfl⟩, qq⟩ hN
    have l2 := parts_le (n := i) (by omega)
    unfold dLcC dItC
    walk_at "wp"
    refine ⟨_, e0, comp_newC (addD (0 + (i : Int))) e0 (by rw [List.length_map]; omega) (fun d hd S3 R r => ?_) (.inr fun b hb => ?_)⟩
    · obtain ⟨p, hp, rfl⟩ := List.mem_map.mp hd
      have := (part_fit hp).1
      unfold dIx
      walk_at "wp"
      exact ⟨by decide, by rw [List.length_map]; omega, r⟩
    · have ne : a ≠ b := fun e => by
        subst e
        rw [e0] at hb
        cases hb
      refine ⟨b, rfl, _, by rw [Cells.put_ne ne]; exact e0, _, Cells.put_same, by simp only [List.length_map]; omega, .inr fun d hd => hN _ _ ⟨⟨d, ?_, _, _, _, rfl⟩, newL_gar frg.fg hd (newL_gar frg.fg hb qq)⟩⟩
      rw [Cells.put_same, add_parts]
  · rintro ds S2 ⟨⟨a, e0, _, _, _, rfl⟩, qq⟩
    have l2 := parts_le (n := n) h4
    unfold dLcC dItC dLc
    walk_at "wp"
    refine ⟨_, e0, comp_newC rowD e0 (by rw [List.length_map]; omega) (fun d hd S3 R r => ?_) (.inl ?_)⟩
    · obtain ⟨p, hp, rfl⟩ := List.mem_map.mp hd
      unfold dIx
      walk_at "wp"
      exact ⟨by decide, r⟩
    rw [row_parts]
    refine ⟨_, _, rfl, rfl, fun e he => ?_, alike_encR _, sortable_encR _, .inl ⟨_, rfl, ?_⟩⟩
    · obtain ⟨p, hp, rfl⟩ := List.mem_map.mp he
      exact (encR_ok p).le (by decide)
    rw [sortedP_eq]
    refine comp_mapE encR dIx (by unfold sortedP; rw [List.length_mergeSort]; omega) (fun p hp S3 R r => ?_) qq
    unfold encR
    walk_at "wp"
    exact r
def T_law : TS2 :=
  (dSeq (dFor (dRng1 (dOp qAdd (dCB qMin2 (dCons (dCB qLen (dCons (dVar 0) dNil)) (dCons (dC (.int 4)) dNil))) (dC (.int 2)))) (kName 1) (dSeq (dSet 2 (dCall sp__law_bag (dCons (dVar 0) (dCons (dVar 1) dNil))))
  (dFor (dRng1 (dC (.int 2))) (kName 3) (dSeq (dAsg (dTup (dCons (dCall sp__law_padded (dCons (dVar 2) dNil)) (dCons (dLst dNil) dNil))) (kTup 2 (kCons (kName 4) (kCons (kName 5) kNil))))
  (dSeq (dFor (dItL (dCall sp__law_parts (dCons (dCB qLen (dCons (dVar 4) dNil)) dNil))) (kName 6) (dIfS (dTest (dOp qIsN (dCall sp__law_unlike (dCons (dCB qTupOf (dCons (dLc (dIt (dVar 6)) (kName 8) dYes (dOp qIx (dVar 4) (dVar 8))) dNil)) (dCons (dVar 4) dNil))) (dC .non))) (dDrop (dMt qAppend (dVar 5) (dCons (dVar 6) dNil))) dNext))
  (dSeq (dIfS (dTest (dOp qNeD (dCall sp_shortest_part (dCons (dVar 4) dNil)) (dOp qIx (dVar 5) (dC (.int 0))))) (dRet (dC (.bl false))) dNext)
  (dSeq (dSet 7 (dLst dNil))
  (dSeq (dFor (dRng1 (dCB qLen (dCons (dVar 4) dNil))) (kName 8) (dIfS (dTest (dOp qInD (dCB qTupOf (dCons (dLc (dRng1 (dCB qLen (dCons (dVar 4) dNil))) (kName 10) (dTest (dOp qNe (dVar 10) (dVar 8))) (dVar 10)) dNil)) (dVar 5))) (dDrop (dMt qAppend (dVar 7) (dCons (dVar 8) dNil))) dNext))
  (dSeq (dSet 9 (dCall sp_needless (dCons (dVar 4) dNil)))
  (dSeq (dIfS (dTest (dOp qNeD (dVar 9) (dVar 7))) (dRet (dC (.bl false))) dNext)
  (dSeq (dDrop (dMt qAppend (dVar 9) (dCons (dC .non) dNil)))
  (dIfS (dTest (dOp qNeD (dCall sp_needless (dCons (dVar 4) dNil)) (dVar 7))) (dRet (dC (.bl false))) dNext))))))))))))
  (dSeq (dIfS (dOr (dTest (dOp qNeD (dCall sp_needless (dCons (dTup (dCons (dTup (dCons (dC .non) (dCons (dC .non) (dCons (dC (.int 1)) dNil)))) (dCons (dTup (dCons (dC .non) (dCons (dC (.int 5)) (dCons (dC (.int 1)) dNil)))) (dCons (dTup (dCons (dC .non) (dCons (dC (.int 9)) (dCons (dC (.int 1)) dNil)))) dNil)))) dNil)) (dLst (dCons (dC (.int 0)) (dCons (dC (.int 2)) dNil))))) (dTest (dOp qNeD (dCall sp_needless (dCons (dTup dNil) dNil)) (dLst dNil)))) (dRet (dC (.bl false))) dNext)
  (dRet (dAndV (dOp qEqD (dCall sp_shortest_part (dCons (dTup (dCons (dTup (dCons (dC .non) (dCons (dC .non) (dCons (dUn qNeg (dC (.int 1))) dNil)))) (dCons (dTup (dCons (dC .non) (dCons (dC .non) (dCons (dUn qNeg (dC (.int 1))) dNil)))) dNil))) dNil)) (dTup dNil)) (dOp qEqD (dCall sp_shortest_part (dCons (dTup (dCons (dTup (dCons (dC (.int 1)) (dCons (dC .non) (dCons (dC (.int 1)) dNil)))) dNil)) dNil)) (dTup (dCons (dC (.int 0)) dNil)))))))
theorem deq_cells {S : Cells} {p q : Addr} {l : List Dt} {n : Nat} (h1 : S p = some (.lst l)) (h2 : S q = some (.lst l)) (o : Ok0 n (.lst l)) (hn : n ≤ 64) : DEq S (.ref p) (.ref q) true := by
  have e1 : rsv S (.ref p) = .lst l := by
    show (match S p with | some (.lst ds) => Dt.lst ds | _ => .ref p) = _
    rw [h1]
  have e2 : rsv S (.ref q) = .lst l := by
    show (match S q with | some (.lst ds) => Dt.lst ds | _ => .ref q) = _
    rw [h2]
  exact ⟨n, n, hn, hn, by rw [e1]; exact o, by rw [e2]; exact o, by rw [e1, e2]; simp⟩
theorem deq_dcell {S : Cells} {q : Addr} {l : List Dt} {n : Nat} (h2 : S q = some (.lst l)) (o : Ok0 n (.lst l)) (hn : n ≤ 64) : DEq S (.lst l) (.ref q) true := by
  have e2 : rsv S (.ref q) = .lst l := by
    show (match S q with | some (.lst ds) => Dt.lst ds | _ => .ref q) = _
    rw [h2]
  exact ⟨n, n, hn, hn, o, by rw [e2]; exact o, by rw [e2]; simp [rsv]⟩
theorem good_head {c : List Sl} (hc : okC c) : ((sortedP c.length).filter (goodP c))[0]? = some (shortF c) := by
  obtain ⟨p, h1, h2⟩ := all_good hc
  have e : (sortedP c.length).find? (goodP c) ≠ none := fun z => by
    have := List.find?_eq_none.mp z p h1
    exact this h2
  unfold shortF
  rw [← List.head?_eq_getElem?, List.head?_filter]
  cases q : (sortedP c.length).find? (goodP c) with
  | none => exact (e q).elim
  | some a => rfl
theorem dIx_inj {p q : List Int} : dIx p = dIx q ↔ p = q := by
  unfold dIx
  rw [Dt.tup.injEq, map_int_eq]
theorem wo_good {c : List Sl} (hc : okC c) {i : Nat} (hi : i < c.length) : dIx ((intsN c.length).filter fun j => decide (j ≠ (i : Int))) ∈ ((sortedP c.length).filter (goodP c)).map dIx ↔ (firstD (woC c i) c).isNone = true := by
  rw [List.mem_map]
  constructor
  · rintro ⟨p, hp, e⟩
    have e := dIx_inj.mp e
    subst e
    have := (List.mem_filter.mp hp).2
    unfold goodP at this
    rw [sub_wo hc.1 hi] at this
    exact this
  · intro h
    refine ⟨_, List.mem_filter.mpr ⟨sortedP_mem.mpr (part_in _ _), ?_⟩, rfl⟩
    unfold goodP
    rw [sub_wo hc.1 hi]
    exact h
theorem short_one {c : List Sl} (hc : okC c ∧ c.length = 1) (h : goodP c [] = false) : shortF c = [0] := by
  obtain ⟨p, h1, h2⟩ := all_good hc.1
  unfold shortF
  cases q : (sortedP c.length).find? (goodP c) with
  | none => exact (List.find?_eq_none.mp q p h1 h2).elim
  | some a =>
    have g := List.find?_some q
    have m := sortedP_mem.mp (List.mem_of_find?_eq_some q)
    rw [hc.2] at m
    have m : a = [] ∨ a = [0] := by simpa [partsN] using m
    rcases m with rfl | rfl
    · rw [h] at g
      cases g
    · rfl
theorem sortedP_pw (n : Nat) : (sortedP n).Pairwise (fun a b => leP a b = true) :=
  PySem.W.sort_pairwise (le := leP) (PySem.W.sortLe_total (PyProof.Rows.listOrd PyProof.Rows.itemOrd) false fun p => PySem.W.keyToks (py (encR p))) (partsN n)
theorem short_two {c : List Sl} (hc : c.length = 2) (h : goodP c [] = true) : shortF c = [] := by
  have pw := sortedP_pw 2
  have m : ∀ p, p ∈ sortedP 2 ↔ p ∈ partsN 2 := fun p => sortedP_mem
  have l : ∀ p, p ∈ partsN 2 → p ≠ [] → leP p [] = false := by decide +kernel
  unfold shortF
  rw [hc]
  cases q : sortedP 2 with
  | nil =>
    have := (m []).mpr (by decide)
    rw [q] at this
    cases this
  | cons a r =>
    rw [q] at pw m
    have ea : a = [] := by
      by_cases e : a = []
      · exact e
      · have h0 : ([] : List Int) ∈ a :: r := (m []).mpr (by decide)
        rcases List.mem_cons.mp h0 with e1 | h0
        · exact e1.symm
        · have z := (List.pairwise_cons.mp pw).1 [] h0
          rw [l a ((m a).mp List.mem_cons_self) e] at z
          cases z
    subst ea
    show (match goodP c [] with | true => some [] | false => _).getD [] = []
    rw [h]
    rfl
theorem pure_law : Pure 11 sp_law T_law := by
  rintro ds S Q E frg ⟨ns, rfl, hl, q⟩
  unfold T_law
  walk_at "wp"
  have b : -1000000000000000000 ≤ (if (4 : Int) < ((ns.map Dt.int).length : Int) then (4 : Int) else ((ns.map Dt.int).length : Int)) + 2 ∧ (if (4 : Int) < ((ns.map Dt.int).length : Int) then (4 : Int) else ((ns.map Dt.int).length : Int)) + 2 ≤ 10 := by
    split <;> omega
  refine ⟨b.1, by omega, ?_⟩
  refine loop_rng (fun _ ds S' => ∃ x1 x2 x3 x4 x5 x6 x7 x8 x9 x10, ds = [some (.lst (ns.map Dt.int)), x1, x2, x3, x4, x5, x6, x7, x8, x9, x10]) ⟨_, _, _, _, _, _, _, _, _, _, rfl⟩ ?_ ?_
  · rintro i ds S' N hi ⟨_, _, _, _, _, _, _, _, _, _, rfl⟩ hN
    walk_at "wp"
    refine ⟨ns, 0 + (i : Int), rfl, by omega, by omega, fun p c s hp => ?_⟩
    walk_at "wp"
    refine ⟨by decide, by decide, ?_⟩
    refine loop_rng (fun _ ds S' => Bag S' p ∧ ∃ x1 x3 x4 x5 x6 x7 x8 x9 x10, ds = [some (.lst (ns.map Dt.int)), x1, some (.ref p), x3, x4, x5, x6, x7, x8, x9, x10]) ⟨Bag.put, _, _, _, _, _, _, _, _, _, rfl⟩ ?_ ?_
    · rintro j ds S2 N2 hj ⟨hb, _, _, _, _, _, _, _, _, _, rfl⟩ hN2
      walk_at "wp"
      refine ⟨p, (), rfl, hb, trivial, fun c1 x y hc => ?_⟩
      have hc : okC c1 := hc
      have h4 := hc.1
      walk_at "wp"
      refine ⟨by decide, .inr fun a na => ⟨by decide, _, rfl, c1.length, by rw [List.length_map], h4, .inl ⟨_, rfl, ?_⟩⟩⟩
      have npa : p ≠ a := Cells.ne_new Cells.put_same na
      have hp2 : ∀ {n : Nat}, n ≤ 4 → (sortedP n).length ≤ 16 := fun {n} h => by
        unfold sortedP
        rw [List.length_mergeSort]
        exact parts_le h
      refine loop_rest dIx (fun r ds S3 => (∃ pre, pre ++ r = sortedP c1.length ∧ S3 a = some (.lst ((pre.filter (goodP c1)).map dIx))) ∧ Bag S3 p ∧ ∃ x1 x3 x6 x7 x8 x9 x10, ds = [some (.lst (ns.map Dt.int)), x1, some (.ref p), x3, some (dCh c1), some (.ref a), x6, x7, x8, x9, x10]) ?_ ?_ (sortedP c1.length) _ _ ⟨⟨[], rfl, Cells.put_same⟩, ⟨x, y, by rw [Cells.put_ne npa]; exact Cells.put_same⟩, _, _, _, _, _, _, _, rfl⟩
      · rintro r rest ds S3 N3 ⟨⟨pre, epre, e0⟩, hb3, _, _, _, _, _, _, _, rfl⟩ hN3
        have hp : r ∈ partsN c1.length := sortedP_mem.mp (by rw [← epre]; exact List.mem_append_right _ List.mem_cons_self)
        have fit := part_fit hp
        have lpre : pre.length ≤ 16 := by
          have := hp2 h4
          rw [← epre, List.length_append] at this
          omega
        unfold dLc
        walk_at "wp"
        refine ⟨_, rfl, comp_mapE Dt.int (fun i => dS (c1.getD i.toNat (none, none, 1))) (by omega) (fun k hk S4 R r2 => ?_) (.inl ?_)⟩
        · unfold dCh
          walk_at "wp"
          have hk := fit.2 k hk
          obtain ⟨s, g1, g2, g3⟩ := at_get (l := c1) (i := k) hk.1 (by omega)
          have es : c1.getD k.toNat (none, none, 1) = s := by
            rw [List.getD_eq_getElem?_getD, g3]
            rfl
          rw [es] at r2
          exact ⟨_, at_mapG g1, r2⟩
        · have em : r.map (fun i => dS (c1.getD i.toNat (none, none, 1))) = (subC c1 r).map dS := by
            unfold subC
            rw [List.map_map]
            rfl
          have ig : isN (dO (firstD (subC c1 r) c1)) = goodP c1 r := by
            unfold goodP
            cases firstD (subC c1 r) c1 <;> rfl
          refine ⟨_, rfl, (subC c1 r, c1), ?_, ⟨sub_ok hc hp, hc⟩, ?_⟩
          · show [Dt.tup _, dCh c1] = [dCh (subC c1 r), dCh c1]
            rw [em]
            rfl
          dsimp only
          rw [ig]
          refine ite2 (fun k => ?_) (fun k => ?_)
          · refine ⟨⟨_, asL_ref e0⟩, a, _, _, rfl, rfl, e0, ?_, hN3 _ _ ⟨⟨pre ++ [r], by rw [List.append_assoc]; exact epre, ?_⟩, ?_, _, _, _, _, _, _, _, rfl⟩⟩
            · rw [List.length_map]
              have := List.length_filter_le (goodP c1) pre
              omega
            · rw [Cells.put_same, List.filter_append, List.map_append, List.filter_cons_of_pos k]
              rfl
            · obtain ⟨x, y, e⟩ := hb3
              exact ⟨x, y, by rw [Cells.put_ne npa]; exact e⟩
          · refine hN3 _ _ ⟨⟨pre ++ [r], by rw [List.append_assoc]; exact epre, ?_⟩, hb3, _, _, _, _, _, _, _, rfl⟩
            rw [List.filter_append, List.filter_cons_of_neg k, List.filter_nil, List.append_nil]
            exact e0
      · rintro ds S3 ⟨⟨pre, epre, e0⟩, hb3, _, _, _, _, _, _, _, rfl⟩
        rw [List.append_nil] at epre
        subst epre
        have e1 := good_head hc
        walk_at "wp"
        refine ⟨c1, rfl, hc, _, asQ_ref e0, _, ?_, ne_self (n := 1) (dIx_ok _) (by decide) ⟨_, rfl, iteN (by decide) ⟨by decide, .inr fun d nd => ?_⟩⟩⟩
        · have lg : 0 < ((sortedP c1.length).filter (goodP c1)).length := (List.getElem?_eq_some_iff.mp e1).1
          obtain ⟨s, g1, g2, g3⟩ := at_get (l := (sortedP c1.length).filter (goodP c1)) (i := 0) (by decide) (by omega)
          have g3 : ((sortedP c1.length).filter (goodP c1))[0]? = some s := g3
          rw [e1] at g3
          cases g3
          exact at_mapG g1
        have nad : a ≠ d := Cells.ne_new e0 nd
        have npd : p ≠ d := by
          obtain ⟨cc, sx, eb⟩ := hb3
          exact Cells.ne_new eb nd
        obtain ⟨f, ef⟩ : ∃ f : Int → Bool, f = fun i => (firstD (woC c1 i.toNat) c1).isNone := ⟨_, rfl⟩
        refine ⟨_, rfl, by rw [List.length_map]; omega, by rw [List.length_map]; omega, ?_⟩
        rw [List.length_map, Int.toNat_natCast]
        refine loop_rng (fun i ds S4 => (S4 a = some (.lst (((sortedP c1.length).filter (goodP c1)).map dIx)) ∧ S4 d = some (.lst ((filI f i).map Dt.int)) ∧ Bag S4 p) ∧ ∃ x1 x3 x6 x8 x9 x10, ds = [some (.lst (ns.map Dt.int)), x1, some (.ref p), x3, some (dCh c1), some (.ref a), x6, some (.ref d), x8, x9, x10]) ⟨⟨by rw [Cells.put_ne nad]; exact e0, Cells.put_same, ?_⟩, _, _, _, _, _, _, rfl⟩ ?_ ?_
        · obtain ⟨cc, sx, eb⟩ := hb3
          exact ⟨cc, sx, by rw [Cells.put_ne npd]; exact eb⟩
        · rintro i ds S4 N4 hi ⟨⟨g0, g1, g2⟩, _, _, _, _, _, _, rfl⟩ hN4
          unfold dLc
          walk_at "wp"
          rw [Int.zero_add]
          refine ⟨_, rfl, by rw [List.length_map]; omega, by rw [List.length_map]; omega, ?_⟩
          rw [List.length_map, Int.toNat_natCast]
          refine comp_filI (fun j => decide (j ≠ (i : Int))) Dt.int (by omega) (fun j hj S5 R1 R2 y n => ?_) (.inl ?_)
          · walk_at "wp"
            rw [Int.zero_add]
            exact ite2 (fun k => y (by simpa using k)) (fun k => n (by simpa using k))
          walk_at "wp"
          refine ⟨_, asL_ref g0, ⟨1, by decide, dIx_ok _⟩, fun z hz => ?_, fun bb hbb => ?_⟩
          · obtain ⟨r, _, rfl⟩ := List.mem_map.mp hz
            exact (dIx_ok r).le (by decide)
          have hbb := hbb.trans (wo_good hc hi)
          have ebb : bb = f (i : Int) := by
            rw [ef, Bool.eq_iff_iff]
            dsimp only
            rw [Int.toNat_natCast]
            exact hbb
          subst ebb
          refine ⟨_, rfl, ite2 (fun k => ?_) (fun k => ?_)⟩
          · refine ⟨⟨_, asL_ref g1⟩, d, _, _, rfl, rfl, g1, ?_, hN4 _ _ ⟨⟨by rw [Cells.put_ne nad]; exact g0, ?_, ?_⟩, _, _, _, _, _, _, rfl⟩⟩
            · rw [List.length_map]
              exact Nat.lt_of_le_of_lt filI_len (by omega)
            · rw [Cells.put_same, filI_succ, if_pos k, List.map_append]
              rfl
            · obtain ⟨cc, sx, eb⟩ := g2
              exact ⟨cc, sx, by rw [Cells.put_ne npd]; exact eb⟩
          · refine hN4 _ _ ⟨⟨g0, ?_, g2⟩, _, _, _, _, _, _, rfl⟩
            rw [filI_succ, if_neg k, List.append_nil]
            exact g1
        · rintro ds S4 ⟨⟨g0, g1, g2⟩, _, _, _, _, _, _, rfl⟩
          walk_at "wp"
          rw [ef] at g1
          refine ⟨c1, rfl, hc, .inr fun e ne => ?_⟩
          have nde : d ≠ e := Cells.ne_new g1 ne
          have npe : p ≠ e := by
            obtain ⟨cc, sx, eb⟩ := g2
            exact Cells.ne_new eb ne
          refine ⟨true, deq_cells Cells.put_same (by rw [Cells.put_ne nde]; exact g1) (ints_ok _) (by decide), _, rfl, iteN (by decide) ⟨⟨_, asL_put⟩, e, _, _, rfl, rfl, Cells.put_same, ?_, c1, rfl, hc, .inl ⟨true, deq_dcell (by rw [Cells.put_ne nde, Cells.put_ne nde]; exact g1) (ints_ok _) (by decide), _, rfl, iteN (by decide) (hN2 _ _ ⟨?_, _, _, _, _, _, _, _, _, _, rfl⟩)⟩⟩⟩
          · rw [List.length_map]
            exact Nat.lt_of_le_of_lt filI_len (by omega)
          · obtain ⟨cc, sx, eb⟩ := g2
            exact ⟨cc, sx, by rw [Cells.put_ne npe, Cells.put_ne npe]; exact eb⟩
    · rintro ds S2 ⟨_, _, _, _, _, _, _, _, _, _, rfl⟩
      exact hN _ _ ⟨_, _, _, _, _, _, _, _, _, _, rfl⟩
  · rintro ds S' ⟨_, _, _, _, _, _, _, _, _, _, rfl⟩
    walk_at "wp"
    have e1 : filI (fun i => (firstD (woC [(none, none, 1), (none, some 5, 1), (none, some 9, 1)] i.toNat) [(none, none, 1), (none, some 5, 1), (none, some 9, 1)]).isNone) 3 = [0, 2] := by decide +kernel
    have e2 : shortF [(none, none, -1), (none, none, -1)] = [] := short_two rfl (by decide +kernel)
    have e3 : shortF [(some 1, none, 1)] = [0] := short_one ⟨lit_ok (by decide) rfl, rfl⟩ (by decide +kernel)
    refine ⟨by decide, by decide, by decide, by decide, [(none, none, 1), (none, some 5, 1), (none, some 9, 1)], rfl, lit_ok (by decide) rfl, .inl ⟨by decide, .inl ?_⟩⟩
    dsimp only
    rw [show ([(none, none, 1), (none, some 5, 1), (none, some 9, 1)] : List Sl).length = 3 from rfl, e1]
    refine ne_self (n := 1) (ints_ok [0, 2]) (by decide) ⟨_, rfl, iteN (by decide) ⟨by decide, [], rfl, lit_ok (by decide) rfl, .inl ⟨by decide, .inl (ne_self (n := 1) (ints_ok []) (by decide) ⟨_, rfl, iteN (by decide) ?_⟩)⟩⟩⟩
    refine ⟨by decide, by decide, by decide, [(none, none, -1), (none, none, -1)], rfl, lit_ok (by decide) rfl, by decide, ?_⟩
    dsimp only
    rw [e2]
    refine eq_self (n := 1) (dIx_ok []) (by decide) ⟨_, rfl, iteP (by decide) ⟨by decide, by decide, [(some 1, none, 1)], rfl, lit_ok (by decide) rfl, by decide, ?_⟩⟩
    dsimp only
    rw [e3]
    exact eq_self (n := 1) (dIx_ok [0]) (by decide) (q _)

def top (i : Nat) : Stmt := PySem.Challenge.pw_slicechains_k10_whole_needless_slices.main.body.getD i (.Pass ⟨0, 0, 0, 0⟩)
abbrev s_is_integer : Stmt := top 7
abbrev N_is_integer : List Str := ["value", "low", "high"]
theorem sc_is_integer : FnScope N_is_integer ["value", "low", "high"] (defScope s_is_integer) := ⟨rfl, rfl, rfl, by decide +kernel, rfl, by decide +kernel, by decide +kernel⟩
abbrev s_is_bound : Stmt := top 8
abbrev N_is_bound : List Str := ["value"]
theorem sc_is_bound : FnScope N_is_bound ["value"] (defScope s_is_bound) := ⟨rfl, rfl, rfl, by decide +kernel, rfl, by decide +kernel, by decide +kernel⟩
abbrev s_is_step : Stmt := top 9
abbrev N_is_step : List Str := ["value"]
theorem sc_is_step : FnScope N_is_step ["value"] (defScope s_is_step) := ⟨rfl, rfl, rfl, by decide +kernel, rfl, by decide +kernel, by decide +kernel⟩
abbrev s_is_slice : Stmt := top 10
abbrev N_is_slice : List Str := ["value"]
theorem sc_is_slice : FnScope N_is_slice ["value"] (defScope s_is_slice) := ⟨rfl, rfl, rfl, by decide +kernel, rfl, by decide +kernel, by decide +kernel⟩
abbrev s_is_chain : Stmt := top 11
abbrev N_is_chain : List Str := ["value", "one"]
theorem sc_is_chain : FnScope N_is_chain ["value"] (defScope s_is_chain) := ⟨rfl, rfl, rfl, by decide +kernel, rfl, by decide +kernel, by decide +kernel⟩
abbrev s_require_chain : Stmt := top 12
abbrev N_require_chain : List Str := ["chain"]
theorem sc_require_chain : FnScope N_require_chain ["chain"] (defScope s_require_chain) := ⟨rfl, rfl, rfl, by decide +kernel, rfl, by decide +kernel, by decide +kernel⟩
abbrev s_moved : Stmt := top 13
abbrev N_moved : List Str := ["bound", "count", "low", "high", "place"]
theorem sc_moved : FnScope N_moved ["bound", "count", "low", "high"] (defScope s_moved) := ⟨rfl, rfl, rfl, by decide +kernel, rfl, by decide +kernel, by decide +kernel⟩
abbrev s_ends : Stmt := top 14
abbrev N_ends : List Str := ["one", "count", "start", "stop", "step", "first"]
theorem sc_ends : FnScope N_ends ["one", "count"] (defScope s_ends) := ⟨rfl, rfl, rfl, by decide +kernel, rfl, by decide +kernel, by decide +kernel⟩
abbrev s_applied : Stmt := top 15
abbrev N_applied : List Str := ["one", "shown", "first", "step", "count", "begin", "end", "many"]
theorem sc_applied : FnScope N_applied ["one", "shown"] (defScope s_applied) := ⟨rfl, rfl, rfl, by decide +kernel, rfl, by decide +kernel, by decide +kernel⟩
abbrev s_shown_by : Stmt := top 16
abbrev N_shown_by : List Str := ["chain", "length", "shown", "one"]
theorem sc_shown_by : FnScope N_shown_by ["chain", "length"] (defScope s_shown_by) := ⟨rfl, rfl, rfl, by decide +kernel, rfl, by decide +kernel, by decide +kernel⟩
abbrev s_cleaned : Stmt := top 18
abbrev N_cleaned : List Str := ["shown", "first", "step", "count"]
theorem sc_cleaned : FnScope N_cleaned ["shown"] (defScope s_cleaned) := ⟨rfl, rfl, rfl, by decide +kernel, rfl, by decide +kernel, by decide +kernel⟩
abbrev s_clean : Stmt := top 19
abbrev N_clean : List Str := ["chain", "length"]
theorem sc_clean : FnScope N_clean ["chain", "length"] (defScope s_clean) := ⟨rfl, rfl, rfl, by decide +kernel, rfl, by decide +kernel, by decide +kernel⟩
abbrev s_threshold_of : Stmt := top 21
abbrev N_threshold_of : List Str := ["chain", "found", "weight", "start", "stop", "step"]
theorem sc_threshold_of : FnScope N_threshold_of ["chain"] (defScope s_threshold_of) := ⟨rfl, rfl, rfl, by decide +kernel, rfl, by decide +kernel, by decide +kernel⟩
abbrev s_period_of : Stmt := top 22
abbrev N_period_of : List Str := ["chain", "found", "start", "stop", "step"]
theorem sc_period_of : FnScope N_period_of ["chain"] (defScope s_period_of) := ⟨rfl, rfl, rfl, by decide +kernel, rfl, by decide +kernel, by decide +kernel⟩
abbrev s_common_multiple : Stmt := top 24
abbrev N_common_multiple : List Str := ["one", "other", "first", "second"]
theorem sc_common_multiple : FnScope N_common_multiple ["one", "other"] (defScope s_common_multiple) := ⟨rfl, rfl, rfl, by decide +kernel, rfl, by decide +kernel, by decide +kernel⟩
abbrev s_last_threshold : Stmt := top 25
abbrev N_last_threshold : List Str := ["first", "second"]
theorem sc_last_threshold : FnScope N_last_threshold ["first", "second"] (defScope s_last_threshold) := ⟨rfl, rfl, rfl, by decide +kernel, rfl, by decide +kernel, by decide +kernel⟩
abbrev s_both_periods : Stmt := top 26
abbrev N_both_periods : List Str := ["first", "second"]
theorem sc_both_periods : FnScope N_both_periods ["first", "second"] (defScope s_both_periods) := ⟨rfl, rfl, rfl, by decide +kernel, rfl, by decide +kernel, by decide +kernel⟩
abbrev s_bound_for : Stmt := top 27
abbrev N_bound_for : List Str := ["first", "second"]
theorem sc_bound_for : FnScope N_bound_for ["first", "second"] (defScope s_bound_for) := ⟨rfl, rfl, rfl, by decide +kernel, rfl, by decide +kernel, by decide +kernel⟩
abbrev s_agree_at : Stmt := top 28
abbrev N_agree_at : List Str := ["first", "second", "length"]
theorem sc_agree_at : FnScope N_agree_at ["first", "second", "length"] (defScope s_agree_at) := ⟨rfl, rfl, rfl, by decide +kernel, rfl, by decide +kernel, by decide +kernel⟩
abbrev s_first_difference : Stmt := top 29
abbrev N_first_difference : List Str := ["first", "second", "length"]
theorem sc_first_difference : FnScope N_first_difference ["first", "second"] (defScope s_first_difference) := ⟨rfl, rfl, rfl, by decide +kernel, rfl, by decide +kernel, by decide +kernel⟩
abbrev s_are_equal : Stmt := top 31
abbrev N_are_equal : List Str := ["first", "second"]
theorem sc_are_equal : FnScope N_are_equal ["first", "second"] (defScope s_are_equal) := ⟨rfl, rfl, rfl, by decide +kernel, rfl, by decide +kernel, by decide +kernel⟩
abbrev s_without : Stmt := top 32
abbrev N_without : List Str := ["chain", "index"]
theorem sc_without : FnScope N_without ["chain", "index"] (defScope s_without) := ⟨rfl, rfl, rfl, by decide +kernel, rfl, by decide +kernel, by decide +kernel⟩
abbrev s_needless : Stmt := top 33
abbrev N_needless : List Str := ["chain", "index"]
theorem sc_needless : FnScope N_needless ["chain"] (defScope s_needless) := ⟨rfl, rfl, rfl, by decide +kernel, rfl, by decide +kernel, by decide +kernel⟩
abbrev s_shortest_part : Stmt := top 34
abbrev N_shortest_part : List Str := ["chain", "parts", "index", "size", "part"]
theorem sc_shortest_part : FnScope N_shortest_part ["chain"] (defScope s_shortest_part) := ⟨rfl, rfl, rfl, by decide +kernel, rfl, by decide +kernel, by decide +kernel⟩
abbrev s__law_bag : Stmt := top 36
abbrev N__law_bag : List Str := ["_law_script", "_law_k", "_law_cell", "_law_seed"]
theorem sc__law_bag : FnScope N__law_bag ["_law_script", "_law_k"] (defScope s__law_bag) := ⟨rfl, rfl, rfl, by decide +kernel, rfl, by decide +kernel, by decide +kernel⟩
abbrev s__law_take : Stmt := top 37
abbrev N__law_take : List Str := ["_law_bag_here", "_law_count", "_law_found"]
theorem sc__law_take : FnScope N__law_take ["_law_bag_here", "_law_count"] (defScope s__law_take) := ⟨rfl, rfl, rfl, by decide +kernel, rfl, by decide +kernel, by decide +kernel⟩
abbrev s__law_of : Stmt := top 38
abbrev N__law_of : List Str := ["_law_bag_here", "_law_some"]
theorem sc__law_of : FnScope N__law_of ["_law_bag_here", "_law_some"] (defScope s__law_of) := ⟨rfl, rfl, rfl, by decide +kernel, rfl, by decide +kernel, by decide +kernel⟩
abbrev s__law_bound : Stmt := top 39
abbrev N__law_bound : List Str := ["_law_bag_here", "_law_wide"]
theorem sc__law_bound : FnScope N__law_bound ["_law_bag_here", "_law_wide"] (defScope s__law_bound) := ⟨rfl, rfl, rfl, by decide +kernel, rfl, by decide +kernel, by decide +kernel⟩
abbrev s__law_slice : Stmt := top 40
abbrev N__law_slice : List Str := ["_law_bag_here", "_law_wide"]
theorem sc__law_slice : FnScope N__law_slice ["_law_bag_here", "_law_wide"] (defScope s__law_slice) := ⟨rfl, rfl, rfl, by decide +kernel, rfl, by decide +kernel, by decide +kernel⟩
abbrev s__law_chain : Stmt := top 41
abbrev N__law_chain : List Str := ["_law_bag_here", "_law_most", "_law_wide", "_law_turn"]
theorem sc__law_chain : FnScope N__law_chain ["_law_bag_here", "_law_most", "_law_wide"] (defScope s__law_chain) := ⟨rfl, rfl, rfl, by decide +kernel, rfl, by decide +kernel, by decide +kernel⟩
abbrev s__law_part : Stmt := top 42
abbrev N__law_part : List Str := ["_law_one", "_law_c", "_law_start", "_law_stop", "_law_step", "_law_low", "_law_high"]
theorem sc__law_part : FnScope N__law_part ["_law_one", "_law_c"] (defScope s__law_part) := ⟨rfl, rfl, rfl, by decide +kernel, rfl, by decide +kernel, by decide +kernel⟩
abbrev s__law_shown : Stmt := top 43
abbrev N__law_shown : List Str := ["_law_chain_here", "_law_length", "_law_first", "_law_step", "_law_count_so", "_law_one", "_law_begin", "_law_many"]
theorem sc__law_shown : FnScope N__law_shown ["_law_chain_here", "_law_length"] (defScope s__law_shown) := ⟨rfl, rfl, rfl, by decide +kernel, rfl, by decide +kernel, by decide +kernel⟩
abbrev s__law_weights : Stmt := top 44
abbrev N__law_weights : List Str := ["_law_chain_here", "_law_total", "_law_weight", "_law_start", "_law_stop", "_law_step"]
theorem sc__law_weights : FnScope N__law_weights ["_law_chain_here"] (defScope s__law_weights) := ⟨rfl, rfl, rfl, by decide +kernel, rfl, by decide +kernel, by decide +kernel⟩
abbrev s__law_multiple : Stmt := top 45
abbrev N__law_multiple : List Str := ["_law_one", "_law_other", "_law_found"]
theorem sc__law_multiple : FnScope N__law_multiple ["_law_one", "_law_other"] (defScope s__law_multiple) := ⟨rfl, rfl, rfl, by decide +kernel, rfl, by decide +kernel, by decide +kernel⟩
abbrev s__law_limit : Stmt := top 46
abbrev N__law_limit : List Str := ["_law_first", "_law_second", "_law_one", "_law_other"]
theorem sc__law_limit : FnScope N__law_limit ["_law_first", "_law_second"] (defScope s__law_limit) := ⟨rfl, rfl, rfl, by decide +kernel, rfl, by decide +kernel, by decide +kernel⟩
abbrev s__law_unlike : Stmt := top 47
abbrev N__law_unlike : List Str := ["_law_first", "_law_second", "_law_far", "_law_modulus", "_law_length"]
theorem sc__law_unlike : FnScope N__law_unlike ["_law_first", "_law_second"] (defScope s__law_unlike) := ⟨rfl, rfl, rfl, by decide +kernel, rfl, by decide +kernel, by decide +kernel⟩
abbrev s__law_padded : Stmt := top 48
abbrev N__law_padded : List Str := ["_law_bag_here", "_law_chain_here", "_law_turn", "_law_at", "_law_more"]
theorem sc__law_padded : FnScope N__law_padded ["_law_bag_here"] (defScope s__law_padded) := ⟨rfl, rfl, rfl, by decide +kernel, rfl, by decide +kernel, by decide +kernel⟩
abbrev s__law_parts : Stmt := top 49
abbrev N__law_parts : List Str := ["_law_many", "_law_found", "_law_index", "_law_part_here", "_law_row"]
theorem sc__law_parts : FnScope N__law_parts ["_law_many"] (defScope s__law_parts) := ⟨rfl, rfl, rfl, by decide +kernel, rfl, by decide +kernel, by decide +kernel⟩
abbrev s_law : Stmt := top 50
abbrev N_law : List Str := ["_law_script", "_law_k", "_law_bag_here", "_law_turn", "_law_chain_here", "_law_good", "_law_part_here", "_law_due", "_law_index", "_law_told", "_law_at"]
theorem sc_law : FnScope N_law ["_law_script"] (defScope s_law) := ⟨rfl, rfl, rfl, by decide +kernel, rfl, by decide +kernel, by decide +kernel⟩
/-- what the top has written -/
structure Tx (K : PySem.W.Frag) (mg : Str → Option Value) : Prop where
  f_is_integer : ∃ fd, FunD K "is_integer" "is_integer" (defArgs s_is_integer) (defBody s_is_integer) (defScope s_is_integer) [] [] (He.ga K "is_integer") fd
  g_is_integer : mg "is_integer" = some (.ref (He.ga K "is_integer"))
  f_is_bound : ∃ fd, FunD K "is_bound" "is_bound" (defArgs s_is_bound) (defBody s_is_bound) (defScope s_is_bound) [] [] (He.ga K "is_bound") fd
  g_is_bound : mg "is_bound" = some (.ref (He.ga K "is_bound"))
  f_is_step : ∃ fd, FunD K "is_step" "is_step" (defArgs s_is_step) (defBody s_is_step) (defScope s_is_step) [] [] (He.ga K "is_step") fd
  g_is_step : mg "is_step" = some (.ref (He.ga K "is_step"))
  f_is_slice : ∃ fd, FunD K "is_slice" "is_slice" (defArgs s_is_slice) (defBody s_is_slice) (defScope s_is_slice) [] [] (He.ga K "is_slice") fd
  g_is_slice : mg "is_slice" = some (.ref (He.ga K "is_slice"))
  f_is_chain : ∃ fd, FunD K "is_chain" "is_chain" (defArgs s_is_chain) (defBody s_is_chain) (defScope s_is_chain) [] [] (He.ga K "is_chain") fd
  g_is_chain : mg "is_chain" = some (.ref (He.ga K "is_chain"))
  f_require_chain : ∃ fd, FunD K "require_chain" "require_chain" (defArgs s_require_chain) (defBody s_require_chain) (defScope s_require_chain) [] [] (He.ga K "require_chain") fd
  g_require_chain : mg "require_chain" = some (.ref (He.ga K "require_chain"))
  f_moved : ∃ fd, FunD K "moved" "moved" (defArgs s_moved) (defBody s_moved) (defScope s_moved) [] [] (He.ga K "moved") fd
  g_moved : mg "moved" = some (.ref (He.ga K "moved"))
  f_ends : ∃ fd, FunD K "ends" "ends" (defArgs s_ends) (defBody s_ends) (defScope s_ends) [] [] (He.ga K "ends") fd
  g_ends : mg "ends" = some (.ref (He.ga K "ends"))
  f_applied : ∃ fd, FunD K "applied" "applied" (defArgs s_applied) (defBody s_applied) (defScope s_applied) [] [] (He.ga K "applied") fd
  g_applied : mg "applied" = some (.ref (He.ga K "applied"))
  f_shown_by : ∃ fd, FunD K "shown_by" "shown_by" (defArgs s_shown_by) (defBody s_shown_by) (defScope s_shown_by) [] [] (He.ga K "shown_by") fd
  g_shown_by : mg "shown_by" = some (.ref (He.ga K "shown_by"))
  f_cleaned : ∃ fd, FunD K "cleaned" "cleaned" (defArgs s_cleaned) (defBody s_cleaned) (defScope s_cleaned) [] [] (He.ga K "cleaned") fd
  g_cleaned : mg "cleaned" = some (.ref (He.ga K "cleaned"))
  f_clean : ∃ fd, FunD K "clean" "clean" (defArgs s_clean) (defBody s_clean) (defScope s_clean) [] [] (He.ga K "clean") fd
  g_clean : mg "clean" = some (.ref (He.ga K "clean"))
  f_threshold_of : ∃ fd, FunD K "threshold_of" "threshold_of" (defArgs s_threshold_of) (defBody s_threshold_of) (defScope s_threshold_of) [] [] (He.ga K "threshold_of") fd
  g_threshold_of : mg "threshold_of" = some (.ref (He.ga K "threshold_of"))
  f_period_of : ∃ fd, FunD K "period_of" "period_of" (defArgs s_period_of) (defBody s_period_of) (defScope s_period_of) [] [] (He.ga K "period_of") fd
  g_period_of : mg "period_of" = some (.ref (He.ga K "period_of"))
  f_common_multiple : ∃ fd, FunD K "common_multiple" "common_multiple" (defArgs s_common_multiple) (defBody s_common_multiple) (defScope s_common_multiple) [] [] (He.ga K "common_multiple") fd
  g_common_multiple : mg "common_multiple" = some (.ref (He.ga K "common_multiple"))
  f_last_threshold : ∃ fd, FunD K "last_threshold" "last_threshold" (defArgs s_last_threshold) (defBody s_last_threshold) (defScope s_last_threshold) [] [] (He.ga K "last_threshold") fd
  g_last_threshold : mg "last_threshold" = some (.ref (He.ga K "last_threshold"))
  f_both_periods : ∃ fd, FunD K "both_periods" "both_periods" (defArgs s_both_periods) (defBody s_both_periods) (defScope s_both_periods) [] [] (He.ga K "both_periods") fd
  g_both_periods : mg "both_periods" = some (.ref (He.ga K "both_periods"))
  f_bound_for : ∃ fd, FunD K "bound_for" "bound_for" (defArgs s_bound_for) (defBody s_bound_for) (defScope s_bound_for) [] [] (He.ga K "bound_for") fd
  g_bound_for : mg "bound_for" = some (.ref (He.ga K "bound_for"))
  f_agree_at : ∃ fd, FunD K "agree_at" "agree_at" (defArgs s_agree_at) (defBody s_agree_at) (defScope s_agree_at) [] [] (He.ga K "agree_at") fd
  g_agree_at : mg "agree_at" = some (.ref (He.ga K "agree_at"))
  f_first_difference : ∃ fd, FunD K "first_difference" "first_difference" (defArgs s_first_difference) (defBody s_first_difference) (defScope s_first_difference) [] [] (He.ga K "first_difference") fd
  g_first_difference : mg "first_difference" = some (.ref (He.ga K "first_difference"))
  f_are_equal : ∃ fd, FunD K "are_equal" "are_equal" (defArgs s_are_equal) (defBody s_are_equal) (defScope s_are_equal) [] [] (He.ga K "are_equal") fd
  g_are_equal : mg "are_equal" = some (.ref (He.ga K "are_equal"))
  f_without : ∃ fd, FunD K "without" "without" (defArgs s_without) (defBody s_without) (defScope s_without) [] [] (He.ga K "without") fd
  g_without : mg "without" = some (.ref (He.ga K "without"))
  f_needless : ∃ fd, FunD K "needless" "needless" (defArgs s_needless) (defBody s_needless) (defScope s_needless) [] [] (He.ga K "needless") fd
  g_needless : mg "needless" = some (.ref (He.ga K "needless"))
  f_shortest_part : ∃ fd, FunD K "shortest_part" "shortest_part" (defArgs s_shortest_part) (defBody s_shortest_part) (defScope s_shortest_part) [] [] (He.ga K "shortest_part") fd
  g_shortest_part : mg "shortest_part" = some (.ref (He.ga K "shortest_part"))
  f__law_bag : ∃ fd, FunD K "_law_bag" "_law_bag" (defArgs s__law_bag) (defBody s__law_bag) (defScope s__law_bag) [] [] (He.ga K "_law_bag") fd
  g__law_bag : mg "_law_bag" = some (.ref (He.ga K "_law_bag"))
  f__law_take : ∃ fd, FunD K "_law_take" "_law_take" (defArgs s__law_take) (defBody s__law_take) (defScope s__law_take) [] [] (He.ga K "_law_take") fd
  g__law_take : mg "_law_take" = some (.ref (He.ga K "_law_take"))
  f__law_of : ∃ fd, FunD K "_law_of" "_law_of" (defArgs s__law_of) (defBody s__law_of) (defScope s__law_of) [] [] (He.ga K "_law_of") fd
  g__law_of : mg "_law_of" = some (.ref (He.ga K "_law_of"))
  f__law_bound : ∃ fd, FunD K "_law_bound" "_law_bound" (defArgs s__law_bound) (defBody s__law_bound) (defScope s__law_bound) [] [] (He.ga K "_law_bound") fd
  g__law_bound : mg "_law_bound" = some (.ref (He.ga K "_law_bound"))
  f__law_slice : ∃ fd, FunD K "_law_slice" "_law_slice" (defArgs s__law_slice) (defBody s__law_slice) (defScope s__law_slice) [] [] (He.ga K "_law_slice") fd
  g__law_slice : mg "_law_slice" = some (.ref (He.ga K "_law_slice"))
  f__law_chain : ∃ fd, FunD K "_law_chain" "_law_chain" (defArgs s__law_chain) (defBody s__law_chain) (defScope s__law_chain) [] [] (He.ga K "_law_chain") fd
  g__law_chain : mg "_law_chain" = some (.ref (He.ga K "_law_chain"))
  f__law_part : ∃ fd, FunD K "_law_part" "_law_part" (defArgs s__law_part) (defBody s__law_part) (defScope s__law_part) [] [] (He.ga K "_law_part") fd
  g__law_part : mg "_law_part" = some (.ref (He.ga K "_law_part"))
  f__law_shown : ∃ fd, FunD K "_law_shown" "_law_shown" (defArgs s__law_shown) (defBody s__law_shown) (defScope s__law_shown) [] [] (He.ga K "_law_shown") fd
  g__law_shown : mg "_law_shown" = some (.ref (He.ga K "_law_shown"))
  f__law_weights : ∃ fd, FunD K "_law_weights" "_law_weights" (defArgs s__law_weights) (defBody s__law_weights) (defScope s__law_weights) [] [] (He.ga K "_law_weights") fd
  g__law_weights : mg "_law_weights" = some (.ref (He.ga K "_law_weights"))
  f__law_multiple : ∃ fd, FunD K "_law_multiple" "_law_multiple" (defArgs s__law_multiple) (defBody s__law_multiple) (defScope s__law_multiple) [] [] (He.ga K "_law_multiple") fd
  g__law_multiple : mg "_law_multiple" = some (.ref (He.ga K "_law_multiple"))
  f__law_limit : ∃ fd, FunD K "_law_limit" "_law_limit" (defArgs s__law_limit) (defBody s__law_limit) (defScope s__law_limit) [] [] (He.ga K "_law_limit") fd
  g__law_limit : mg "_law_limit" = some (.ref (He.ga K "_law_limit"))
  f__law_unlike : ∃ fd, FunD K "_law_unlike" "_law_unlike" (defArgs s__law_unlike) (defBody s__law_unlike) (defScope s__law_unlike) [] [] (He.ga K "_law_unlike") fd
  g__law_unlike : mg "_law_unlike" = some (.ref (He.ga K "_law_unlike"))
  f__law_padded : ∃ fd, FunD K "_law_padded" "_law_padded" (defArgs s__law_padded) (defBody s__law_padded) (defScope s__law_padded) [] [] (He.ga K "_law_padded") fd
  g__law_padded : mg "_law_padded" = some (.ref (He.ga K "_law_padded"))
  f__law_parts : ∃ fd, FunD K "_law_parts" "_law_parts" (defArgs s__law_parts) (defBody s__law_parts) (defScope s__law_parts) [] [] (He.ga K "_law_parts") fd
  g__law_parts : mg "_law_parts" = some (.ref (He.ga K "_law_parts"))
  f_law : ∃ fd, FunD K "law" "law" (defArgs s_law) (defBody s_law) (defScope s_law) [] [] (He.ga K "law") fd
  g_law : mg "law" = some (.ref (He.ga K "law"))
  c_BOUND : ∃ t, mg "BOUND" = some (.int 30 t)
  c_STEP : ∃ t, mg "STEP" = some (.int 3 t)
  c_SLICES : ∃ t, mg "SLICES" = some (.int 4 t)
  m_abs : mg "abs" = none
  m_all : mg "all" = none
  m_bool : mg "bool" = none
  m_int : mg "int" = none
  m_isinstance : mg "isinstance" = none
  m_len : mg "len" = none
  m_max : mg "max" = none
  m_min : mg "min" = none
  m_range : mg "range" = none
  m_sorted : mg "sorted" = none
  m_tuple : mg "tuple" = none
  x_ChainError : ExcOk K mg "ChainError" (He.ga K "ChainError")
  x_InvalidChain : ExcOk K mg "InvalidChain" (He.ga K "InvalidChain")
def fn : List He.DefD := ⟨("is_integer", none), "is_integer", "is_integer", defArgs s_is_integer, defBody s_is_integer, defScope s_is_integer, [], []⟩ :: ⟨("is_bound", none), "is_bound", "is_bound", defArgs s_is_bound, defBody s_is_bound, defScope s_is_bound, [], []⟩ :: ⟨("is_step", none), "is_step", "is_step", defArgs s_is_step, defBody s_is_step, defScope s_is_step, [], []⟩ :: ⟨("is_slice", none), "is_slice", "is_slice", defArgs s_is_slice, defBody s_is_slice, defScope s_is_slice, [], []⟩ :: ⟨("is_chain", none), "is_chain", "is_chain", defArgs s_is_chain, defBody s_is_chain, defScope s_is_chain, [], []⟩ :: ⟨("require_chain", none), "require_chain", "require_chain", defArgs s_require_chain, defBody s_require_chain, defScope s_require_chain, [], []⟩ :: ⟨("moved", none), "moved", "moved", defArgs s_moved, defBody s_moved, defScope s_moved, [], []⟩ :: ⟨("ends", none), "ends", "ends", defArgs s_ends, defBody s_ends, defScope s_ends, [], []⟩ :: ⟨("applied", none), "applied", "applied", defArgs s_applied, defBody s_applied, defScope s_applied, [], []⟩ :: ⟨("shown_by", none), "shown_by", "shown_by", defArgs s_shown_by, defBody s_shown_by, defScope s_shown_by, [], []⟩ :: ⟨("cleaned", none), "cleaned", "cleaned", defArgs s_cleaned, defBody s_cleaned, defScope s_cleaned, [], []⟩ :: ⟨("clean", none), "clean", "clean", defArgs s_clean, defBody s_clean, defScope s_clean, [], []⟩ :: ⟨("threshold_of", none), "threshold_of", "threshold_of", defArgs s_threshold_of, defBody s_threshold_of, defScope s_threshold_of, [], []⟩ :: ⟨("period_of", none), "period_of", "period_of", defArgs s_period_of, defBody s_period_of, defScope s_period_of, [], []⟩ :: ⟨("common_multiple", none), "common_multiple", "common_multiple", defArgs s_common_multiple, defBody s_common_multiple, defScope s_common_multiple, [], []⟩ :: ⟨("last_threshold", none), "last_threshold", "last_threshold", defArgs s_last_threshold, defBody s_last_threshold, defScope s_last_threshold, [], []⟩ :: ⟨("both_periods", none), "both_periods", "both_periods", defArgs s_both_periods, defBody s_both_periods, defScope s_both_periods, [], []⟩ :: ⟨("bound_for", none), "bound_for", "bound_for", defArgs s_bound_for, defBody s_bound_for, defScope s_bound_for, [], []⟩ :: ⟨("agree_at", none), "agree_at", "agree_at", defArgs s_agree_at, defBody s_agree_at, defScope s_agree_at, [], []⟩ :: ⟨("first_difference", none), "first_difference", "first_difference", defArgs s_first_difference, defBody s_first_difference, defScope s_first_difference, [], []⟩ :: ⟨("are_equal", none), "are_equal", "are_equal", defArgs s_are_equal, defBody s_are_equal, defScope s_are_equal, [], []⟩ :: ⟨("without", none), "without", "without", defArgs s_without, defBody s_without, defScope s_without, [], []⟩ :: ⟨("needless", none), "needless", "needless", defArgs s_needless, defBody s_needless, defScope s_needless, [], []⟩ :: ⟨("shortest_part", none), "shortest_part", "shortest_part", defArgs s_shortest_part, defBody s_shortest_part, defScope s_shortest_part, [], []⟩ :: ⟨("_law_bag", none), "_law_bag", "_law_bag", defArgs s__law_bag, defBody s__law_bag, defScope s__law_bag, [], []⟩ :: ⟨("_law_take", none), "_law_take", "_law_take", defArgs s__law_take, defBody s__law_take, defScope s__law_take, [], []⟩ :: ⟨("_law_of", none), "_law_of", "_law_of", defArgs s__law_of, defBody s__law_of, defScope s__law_of, [], []⟩ :: ⟨("_law_bound", none), "_law_bound", "_law_bound", defArgs s__law_bound, defBody s__law_bound, defScope s__law_bound, [], []⟩ :: ⟨("_law_slice", none), "_law_slice", "_law_slice", defArgs s__law_slice, defBody s__law_slice, defScope s__law_slice, [], []⟩ :: ⟨("_law_chain", none), "_law_chain", "_law_chain", defArgs s__law_chain, defBody s__law_chain, defScope s__law_chain, [], []⟩ :: ⟨("_law_part", none), "_law_part", "_law_part", defArgs s__law_part, defBody s__law_part, defScope s__law_part, [], []⟩ :: ⟨("_law_shown", none), "_law_shown", "_law_shown", defArgs s__law_shown, defBody s__law_shown, defScope s__law_shown, [], []⟩ :: ⟨("_law_weights", none), "_law_weights", "_law_weights", defArgs s__law_weights, defBody s__law_weights, defScope s__law_weights, [], []⟩ :: ⟨("_law_multiple", none), "_law_multiple", "_law_multiple", defArgs s__law_multiple, defBody s__law_multiple, defScope s__law_multiple, [], []⟩ :: ⟨("_law_limit", none), "_law_limit", "_law_limit", defArgs s__law_limit, defBody s__law_limit, defScope s__law_limit, [], []⟩ :: ⟨("_law_unlike", none), "_law_unlike", "_law_unlike", defArgs s__law_unlike, defBody s__law_unlike, defScope s__law_unlike, [], []⟩ :: ⟨("_law_padded", none), "_law_padded", "_law_padded", defArgs s__law_padded, defBody s__law_padded, defScope s__law_padded, [], []⟩ :: ⟨("_law_parts", none), "_law_parts", "_law_parts", defArgs s__law_parts, defBody s__law_parts, defScope s__law_parts, [], []⟩ :: ⟨("law", none), "law", "law", defArgs s_law, defBody s_law, defScope s_law, [], []⟩ :: []
def fa : List He.Fa := .glo "is_integer" :: .glo "is_bound" :: .glo "is_step" :: .glo "is_slice" :: .glo "is_chain" :: .glo "require_chain" :: .glo "moved" :: .glo "ends" :: .glo "applied" :: .glo "shown_by" :: .glo "cleaned" :: .glo "clean" :: .glo "threshold_of" :: .glo "period_of" :: .glo "common_multiple" :: .glo "last_threshold" :: .glo "both_periods" :: .glo "bound_for" :: .glo "agree_at" :: .glo "first_difference" :: .glo "are_equal" :: .glo "without" :: .glo "needless" :: .glo "shortest_part" :: .glo "_law_bag" :: .glo "_law_take" :: .glo "_law_of" :: .glo "_law_bound" :: .glo "_law_slice" :: .glo "_law_chain" :: .glo "_law_part" :: .glo "_law_shown" :: .glo "_law_weights" :: .glo "_law_multiple" :: .glo "_law_limit" :: .glo "_law_unlike" :: .glo "_law_padded" :: .glo "_law_parts" :: .glo "law" :: .int "BOUND" 30 :: .int "STEP" 3 :: .int "SLICES" 4 :: .free "abs" :: .free "all" :: .free "bool" :: .free "int" :: .free "isinstance" :: .free "len" :: .free "max" :: .free "min" :: .free "range" :: .free "sorted" :: .free "tuple" :: .glo "ChainError" :: .exc "ChainError" :: .glo "InvalidChain" :: .exc "InvalidChain" :: []
theorem env_of {K : PySem.W.Frag} {h : Heap} {mg : Str → Option Value} (X : K.In h) (G : h.Ns mainGlobals mg) (c : He.SaysD fa fn K) : Tx K mg where
  f_is_integer := c.def_ 0 rfl
  g_is_integer := He.glo_ok X G (c.fact 0 rfl)
  f_is_bound := c.def_ 1 rfl
  g_is_bound := He.glo_ok X G (c.fact 1 rfl)
  f_is_step := c.def_ 2 rfl
  g_is_step := He.glo_ok X G (c.fact 2 rfl)
  f_is_slice := c.def_ 3 rfl
  g_is_slice := He.glo_ok X G (c.fact 3 rfl)
  f_is_chain := c.def_ 4 rfl
  g_is_chain := He.glo_ok X G (c.fact 4 rfl)
  f_require_chain := c.def_ 5 rfl
  g_require_chain := He.glo_ok X G (c.fact 5 rfl)
  f_moved := c.def_ 6 rfl
  g_moved := He.glo_ok X G (c.fact 6 rfl)
  f_ends := c.def_ 7 rfl
  g_ends := He.glo_ok X G (c.fact 7 rfl)
  f_applied := c.def_ 8 rfl
  g_applied := He.glo_ok X G (c.fact 8 rfl)
  f_shown_by := c.def_ 9 rfl
  g_shown_by := He.glo_ok X G (c.fact 9 rfl)
  f_cleaned := c.def_ 10 rfl
  g_cleaned := He.glo_ok X G (c.fact 10 rfl)
  f_clean := c.def_ 11 rfl
  g_clean := He.glo_ok X G (c.fact 11 rfl)
  f_threshold_of := c.def_ 12 rfl
  g_threshold_of := He.glo_ok X G (c.fact 12 rfl)
  f_period_of := c.def_ 13 rfl
  g_period_of := He.glo_ok X G (c.fact 13 rfl)
  f_common_multiple := c.def_ 14 rfl
  g_common_multiple := He.glo_ok X G (c.fact 14 rfl)
  f_last_threshold := c.def_ 15 rfl
  g_last_threshold := He.glo_ok X G (c.fact 15 rfl)
  f_both_periods := c.def_ 16 rfl
  g_both_periods := He.glo_ok X G (c.fact 16 rfl)
  f_bound_for := c.def_ 17 rfl
  g_bound_for := He.glo_ok X G (c.fact 17 rfl)
  f_agree_at := c.def_ 18 rfl
  g_agree_at := He.glo_ok X G (c.fact 18 rfl)
  f_first_difference := c.def_ 19 rfl
  g_first_difference := He.glo_ok X G (c.fact 19 rfl)
  f_are_equal := c.def_ 20 rfl
  g_are_equal := He.glo_ok X G (c.fact 20 rfl)
  f_without := c.def_ 21 rfl
  g_without := He.glo_ok X G (c.fact 21 rfl)
  f_needless := c.def_ 22 rfl
  g_needless := He.glo_ok X G (c.fact 22 rfl)
  f_shortest_part := c.def_ 23 rfl
  g_shortest_part := He.glo_ok X G (c.fact 23 rfl)
  f__law_bag := c.def_ 24 rfl
  g__law_bag := He.glo_ok X G (c.fact 24 rfl)
  f__law_take := c.def_ 25 rfl
  g__law_take := He.glo_ok X G (c.fact 25 rfl)
  f__law_of := c.def_ 26 rfl
  g__law_of := He.glo_ok X G (c.fact 26 rfl)
  f__law_bound := c.def_ 27 rfl
  g__law_bound := He.glo_ok X G (c.fact 27 rfl)
  f__law_slice := c.def_ 28 rfl
  g__law_slice := He.glo_ok X G (c.fact 28 rfl)
  f__law_chain := c.def_ 29 rfl
  g__law_chain := He.glo_ok X G (c.fact 29 rfl)
  f__law_part := c.def_ 30 rfl
  g__law_part := He.glo_ok X G (c.fact 30 rfl)
  f__law_shown := c.def_ 31 rfl
  g__law_shown := He.glo_ok X G (c.fact 31 rfl)
  f__law_weights := c.def_ 32 rfl
  g__law_weights := He.glo_ok X G (c.fact 32 rfl)
  f__law_multiple := c.def_ 33 rfl
  g__law_multiple := He.glo_ok X G (c.fact 33 rfl)
  f__law_limit := c.def_ 34 rfl
  g__law_limit := He.glo_ok X G (c.fact 34 rfl)
  f__law_unlike := c.def_ 35 rfl
  g__law_unlike := He.glo_ok X G (c.fact 35 rfl)
  f__law_padded := c.def_ 36 rfl
  g__law_padded := He.glo_ok X G (c.fact 36 rfl)
  f__law_parts := c.def_ 37 rfl
  g__law_parts := He.glo_ok X G (c.fact 37 rfl)
  f_law := c.def_ 38 rfl
  g_law := He.glo_ok X G (c.fact 38 rfl)
  c_BOUND := He.int_ok X G (c.fact 39 rfl)
  c_STEP := He.int_ok X G (c.fact 40 rfl)
  c_SLICES := He.int_ok X G (c.fact 41 rfl)
  m_abs := He.free_ok X G (c.fact 42 rfl)
  m_all := He.free_ok X G (c.fact 43 rfl)
  m_bool := He.free_ok X G (c.fact 44 rfl)
  m_int := He.free_ok X G (c.fact 45 rfl)
  m_isinstance := He.free_ok X G (c.fact 46 rfl)
  m_len := He.free_ok X G (c.fact 47 rfl)
  m_max := He.free_ok X G (c.fact 48 rfl)
  m_min := He.free_ok X G (c.fact 49 rfl)
  m_range := He.free_ok X G (c.fact 50 rfl)
  m_sorted := He.free_ok X G (c.fact 51 rfl)
  m_tuple := He.free_ok X G (c.fact 52 rfl)
  x_ChainError := by
    have z := He.exc_ok (c.fact 54 (f := .exc "ChainError") rfl)
    exact ⟨He.glo_ok X G (c.fact 53 (f := .glo "ChainError") rfl), z.1, z.2.1, z.2.2.1, z.2.2.2⟩
  x_InvalidChain := by
    have z := He.exc_ok (c.fact 56 (f := .exc "InvalidChain") rfl)
    exact ⟨He.glo_ok X G (c.fact 55 (f := .glo "InvalidChain") rfl), z.1, z.2.1, z.2.2.1, z.2.2.2⟩
section
variable {P : Program} {w : World} {K : PySem.W.Frag} {mg : Str → Option Value} {base : Heap}
theorem ok_is_integer (T : Tx K mg) : Has P w K mg base 1 "is_integer" ["value", "low", "high"] sp_is_integer := by
  obtain ⟨fd, F⟩ := T.f_is_integer
  have sc := sc_is_integer
  refine Has.mk (N := N_is_integer) F sc T.g_is_integer (FunD.bindsN F fun _ _ _ _ _ _ us hl => match us, hl with | [_, _, _], _ => rfl) psp.mono (psp.len fun _ => rfl) pure_is_integer (fun cdv A outer s H E hr => ?_)
  have hu := hr.units
  have tk : Takes (cxOf (L2.CX P w) P w K mg base N_is_integer "is_integer" (defScope s_is_integer) (He.ga K "is_integer") cdv A outer s H E) (fun cls d _ H => E cls d H) := takes_of rfl rfl rfl rfl
  exact (b_one (s_ret (e_and (e_isi (ev 0) T.m_isinstance T.m_int boot_int) (e_and (e_not (e_isi (ev 0) T.m_isinstance T.m_bool boot_bool)) (e_one (e_chain o_le o_le (ev 1) (ev 0) (ev 2)))))))
theorem ok_is_bound (T : Tx K mg) : Has P w K mg base 2 "is_bound" ["value"] sp_is_bound := by
  obtain ⟨fd, F⟩ := T.f_is_bound
  have h_is_integer : Has P w K mg base 1 "is_integer" ["value", "low", "high"] sp_is_integer := ok_is_integer T
  have sc := sc_is_bound
  refine Has.mk (N := N_is_bound) F sc T.g_is_bound (FunD.bindsN F fun _ _ _ _ _ _ us hl => match us, hl with | [_], _ => rfl) psp.mono (psp.len fun _ => rfl) pure_is_bound (fun cdv A outer s H E hr => ?_)
  have hu := hr.units
  have tk : Takes (cxOf (L2.CX P w) P w K mg base N_is_bound "is_bound" (defScope s_is_bound) (He.ga K "is_bound") cdv A outer s H E) (fun cls d _ H => E cls d H) := takes_of rfl rfl rfl rfl
  exact (b_one (s_ret (e_or (e_cmp o_isN (ev 0) e_non) (e_one (e_call h_is_integer (hr.mono (by decide)) tk (a_cons (ev 0) (a_cons (e_op o_sub e_int (e_globI T.c_BOUND)) (a_cons (e_globI T.c_BOUND) a_nil))))))))
theorem ok_is_step (T : Tx K mg) : Has P w K mg base 2 "is_step" ["value"] sp_is_step := by
  obtain ⟨fd, F⟩ := T.f_is_step
  have h_is_integer : Has P w K mg base 1 "is_integer" ["value", "low", "high"] sp_is_integer := ok_is_integer T
  have sc := sc_is_step
  refine Has.mk (N := N_is_step) F sc T.g_is_step (FunD.bindsN F fun _ _ _ _ _ _ us hl => match us, hl with | [_], _ => rfl) psp.mono (psp.len fun _ => rfl) pure_is_step (fun cdv A outer s H E hr => ?_)
  have hu := hr.units
  have tk : Takes (cxOf (L2.CX P w) P w K mg base N_is_step "is_step" (defScope s_is_step) (He.ga K "is_step") cdv A outer s H E) (fun cls d _ H => E cls d H) := takes_of rfl rfl rfl rfl
  exact (b_one (s_ret (e_and (e_call h_is_integer (hr.mono (by decide)) tk (a_cons (ev 0) (a_cons (e_op o_sub e_int (e_globI T.c_STEP)) (a_cons (e_globI T.c_STEP) a_nil)))) (e_one (e_cmp o_ne (ev 0) e_int)))))
theorem ok_is_slice (T : Tx K mg) : Has P w K mg base 3 "is_slice" ["value"] sp_is_slice := by
  obtain ⟨fd, F⟩ := T.f_is_slice
  have h_is_bound : Has P w K mg base 2 "is_bound" ["value"] sp_is_bound := ok_is_bound T
  have h_is_step : Has P w K mg base 2 "is_step" ["value"] sp_is_step := ok_is_step T
  have sc := sc_is_slice
  refine Has.mk (N := N_is_slice) F sc T.g_is_slice (FunD.bindsN F fun _ _ _ _ _ _ us hl => match us, hl with | [_], _ => rfl) psp.mono (psp.len fun _ => rfl) pure_is_slice (fun cdv A outer s H E hr => ?_)
  have hu := hr.units
  have tk : Takes (cxOf (L2.CX P w) P w K mg base N_is_slice "is_slice" (defScope s_is_slice) (He.ga K "is_slice") cdv A outer s H E) (fun cls d _ H => E cls d H) := takes_of rfl rfl rfl rfl
  exact (b_cons (s_if ((w_or (t_not (t_val (e_isi (ev 0) T.m_isinstance T.m_tuple boot_tuple))) (w_or1 (t_cmp o_ne (e_callB c_len T.m_len boot_len (a_cons (ev 0) a_nil)) e_int)))).t (b_one (s_ret e_bl)) b_nil)
      (b_one (s_ret (e_and (e_call h_is_bound (hr.mono (by decide)) tk (a_cons (e_ix i_seq (ev 0) e_int) a_nil)) (e_and (e_call h_is_bound (hr.mono (by decide)) tk (a_cons (e_ix i_seq (ev 0) e_int) a_nil)) (e_one (e_call h_is_step (hr.mono (by decide)) tk (a_cons (e_ix i_seq (ev 0) e_int) a_nil))))))))
theorem ok_is_chain (T : Tx K mg) : Has P w K mg base 4 "is_chain" ["value"] sp_is_chain := by
  obtain ⟨fd, F⟩ := T.f_is_chain
  have h_is_slice : Has P w K mg base 3 "is_slice" ["value"] sp_is_slice := ok_is_slice T
  have sc := sc_is_chain
  refine Has.mk (N := N_is_chain) F sc T.g_is_chain (FunD.bindsN F fun _ _ _ _ _ _ us hl => match us, hl with | [_], _ => rfl) psp.mono (psp.len fun _ => rfl) pure_is_chain (fun cdv A outer s H E hr => ?_)
  have hu := hr.units
  have tk : Takes (cxOf (L2.CX P w) P w K mg base N_is_chain "is_chain" (defScope s_is_chain) (He.ga K "is_chain") cdv A outer s H E) (fun cls d _ H => E cls d H) := takes_of rfl rfl rfl rfl
  exact (b_one (s_ret (e_and (e_isi (ev 0) T.m_isinstance T.m_tuple boot_tuple) (e_and (e_cmp o_le (e_callB c_len T.m_len boot_len (a_cons (ev 0) a_nil)) (e_globI T.c_SLICES)) (e_one (e_callB (c_all rfl) T.m_all boot_all (a_cons (e_lc (own := [("one", 1)]) rfl sc.nd (j_tup (ev 0)) (blkOk_by (N := N_is_chain) (sc := defScope s_is_chain) (by decide +kernel)) (cg_name 1) (fun _ _ _ _ _ => pg_name (i := 1) sc.nd rfl (Or.inl rfl)) (fun _ _ _ _ _ => f_nil) (fun _ _ _ _ _ => (e_call h_is_slice (hr.mono (by decide)) takes0 (a_cons (ev 1) a_nil)))) a_nil)))))))
theorem ok_require_chain (T : Tx K mg) : Has P w K mg base 5 "require_chain" ["chain"] sp_require_chain := by
  obtain ⟨fd, F⟩ := T.f_require_chain
  have h_is_chain : Has P w K mg base 4 "is_chain" ["value"] sp_is_chain := ok_is_chain T
  have sc := sc_require_chain
  refine Has.mk (N := N_require_chain) F sc T.g_require_chain (FunD.bindsN F fun _ _ _ _ _ _ us hl => match us, hl with | [_], _ => rfl) psp.mono (psp.len fun _ => rfl) (pure_require_chain (He.ga K "InvalidChain")) (fun cdv A outer s H E hr => ?_)
  have hu := hr.units
  have tk : Takes (cxOf (L2.CX P w) P w K mg base N_require_chain "require_chain" (defScope s_require_chain) (He.ga K "require_chain") cdv A outer s H E) (fun cls d _ H => E cls d H) := takes_of rfl rfl rfl rfl
  exact (b_one (s_if (t_not (t_val (e_call h_is_chain (hr.mono (by decide)) tk (a_cons (ev 0) a_nil)))) (b_one (s_raise rfl tk T.x_InvalidChain)) b_nil))
theorem ok_moved (T : Tx K mg) : Has P w K mg base 1 "moved" ["bound", "count", "low", "high"] sp_moved := by
  obtain ⟨fd, F⟩ := T.f_moved
  have sc := sc_moved
  refine Has.mk (N := N_moved) F sc T.g_moved (FunD.bindsN F fun _ _ _ _ _ _ us hl => match us, hl with | [_, _, _, _], _ => rfl) psp.mono (psp.len fun _ => rfl) pure_moved (fun cdv A outer s H E hr => ?_)
  have hu := hr.units
  have tk : Takes (cxOf (L2.CX P w) P w K mg base N_moved "moved" (defScope s_moved) (He.ga K "moved") cdv A outer s H E) (fun cls d _ H => E cls d H) := takes_of rfl rfl rfl rfl
  exact (b_cons (s_set 4 sc.nd (e_if (t_cmp o_lt (ev 0) e_int) (e_op o_add (ev 0) (ev 1)) (ev 0)))
      (b_one (s_ret (e_callB (c_max2 rfl) T.m_max boot_max (a_cons (ev 2) (a_cons (e_callB (c_min2 rfl) T.m_min boot_min (a_cons (ev 3) (a_cons (ev 4) a_nil))) a_nil))))))
theorem ok_ends (T : Tx K mg) : Has P w K mg base 2 "ends" ["one", "count"] sp_ends := by
  obtain ⟨fd, F⟩ := T.f_ends
  have h_moved : Has P w K mg base 1 "moved" ["bound", "count", "low", "high"] sp_moved := ok_moved T
  have sc := sc_ends
  refine Has.mk (N := N_ends) F sc T.g_ends (FunD.bindsN F fun _ _ _ _ _ _ us hl => match us, hl with | [_, _], _ => rfl) psp.mono (psp.len fun _ => rfl) pure_ends (fun cdv A outer s H E hr => ?_)
  have hu := hr.units
  have tk : Takes (cxOf (L2.CX P w) P w K mg base N_ends "ends" (defScope s_ends) (He.ga K "ends") cdv A outer s H E) (fun cls d _ H => E cls d H) := takes_of rfl rfl rfl rfl
  exact (b_cons (s_asg (ev 0) (g_tup rfl (gs_cons (g_name 2 sc.nd) (gs_cons (g_name 3 sc.nd) (gs_cons (g_name 4 sc.nd) gs_nil)))))
      (b_cons (s_if (t_cmp o_gt (ev 4) e_int) (b_cons (s_set 5 sc.nd (e_if (t_cmp o_isN (ev 2) e_non) e_int (e_call h_moved (hr.mono (by decide)) tk (a_cons (ev 2) (a_cons (ev 1) (a_cons e_int (a_cons (ev 1) a_nil)))))))
      (b_one (s_ret (e_tup (a_cons (ev 5) (a_cons (e_if (t_cmp o_isN (ev 3) e_non) (ev 1) (e_call h_moved (hr.mono (by decide)) tk (a_cons (ev 3) (a_cons (ev 1) (a_cons e_int (a_cons (ev 1) a_nil)))))) a_nil)))))) b_nil)
      (b_cons (s_set 5 sc.nd (e_if (t_cmp o_isN (ev 2) e_non) (e_op o_sub (ev 1) e_int) (e_call h_moved (hr.mono (by decide)) tk (a_cons (ev 2) (a_cons (ev 1) (a_cons (e_op o_sub e_int e_int) (a_cons (e_op o_sub (ev 1) e_int) a_nil)))))))
      (b_one (s_ret (e_tup (a_cons (ev 5) (a_cons (e_if (t_cmp o_isN (ev 3) e_non) (e_op o_sub e_int e_int) (e_call h_moved (hr.mono (by decide)) tk (a_cons (ev 3) (a_cons (ev 1) (a_cons (e_op o_sub e_int e_int) (a_cons (e_op o_sub (ev 1) e_int) a_nil)))))) a_nil))))))))
theorem ok_applied (T : Tx K mg) : Has P w K mg base 3 "applied" ["one", "shown"] sp_applied := by
  obtain ⟨fd, F⟩ := T.f_applied
  have h_ends : Has P w K mg base 2 "ends" ["one", "count"] sp_ends := ok_ends T
  have sc := sc_applied
  refine Has.mk (N := N_applied) F sc T.g_applied (FunD.bindsN F fun _ _ _ _ _ _ us hl => match us, hl with | [_, _], _ => rfl) psp.mono (psp.len fun _ => rfl) pure_applied (fun cdv A outer s H E hr => ?_)
  have hu := hr.units
  have tk : Takes (cxOf (L2.CX P w) P w K mg base N_applied "applied" (defScope s_applied) (He.ga K "applied") cdv A outer s H E) (fun cls d _ H => E cls d H) := takes_of rfl rfl rfl rfl
  exact (b_cons (s_asg (ev 1) (g_tup rfl (gs_cons (g_name 2 sc.nd) (gs_cons (g_name 3 sc.nd) (gs_cons (g_name 4 sc.nd) gs_nil)))))
      (b_cons (s_asg (e_call h_ends (hr.mono (by decide)) tk (a_cons (ev 0) (a_cons (ev 4) a_nil))) (g_tup rfl (gs_cons (g_name 5 sc.nd) (gs_cons (g_name 6 sc.nd) gs_nil))))
      (b_cons (s_if (t_cmp o_gt (e_ix i_seq (ev 0) e_int) e_int) (b_one (s_set 7 sc.nd (e_callB (c_max2 rfl) T.m_max boot_max (a_cons e_int (a_cons (e_op o_fdiv (e_op o_sub (e_op o_add (e_op o_sub (ev 6) (ev 5)) (e_ix i_seq (ev 0) e_int)) e_int) (e_ix i_seq (ev 0) e_int)) a_nil))))) (b_one (s_set 7 sc.nd (e_callB (c_max2 rfl) T.m_max boot_max (a_cons e_int (a_cons (e_op o_fdiv (e_op o_sub (e_op o_sub (e_op o_sub (ev 5) (ev 6)) (e_ix i_seq (ev 0) e_int)) e_int) (e_op o_sub e_int (e_ix i_seq (ev 0) e_int))) a_nil))))))
      (b_one (s_ret (e_tup (a_cons (e_op o_add (ev 2) (e_op o_mul (ev 3) (ev 5))) (a_cons (e_op o_mul (ev 3) (e_ix i_seq (ev 0) e_int)) (a_cons (ev 7) a_nil)))))))))
theorem ok_shown_by (T : Tx K mg) : Has P w K mg base 4 "shown_by" ["chain", "length"] sp_shown_by := by
  obtain ⟨fd, F⟩ := T.f_shown_by
  have h_applied : Has P w K mg base 3 "applied" ["one", "shown"] sp_applied := ok_applied T
  have sc := sc_shown_by
  refine Has.mk (N := N_shown_by) F sc T.g_shown_by (FunD.bindsN F fun _ _ _ _ _ _ us hl => match us, hl with | [_, _], _ => rfl) psp.mono (psp.len fun _ => rfl) pure_shown_by (fun cdv A outer s H E hr => ?_)
  have hu := hr.units
  have tk : Takes (cxOf (L2.CX P w) P w K mg base N_shown_by "shown_by" (defScope s_shown_by) (He.ga K "shown_by") cdv A outer s H E) (fun cls d _ H => E cls d H) := takes_of rfl rfl rfl rfl
  exact (b_cons (s_set 2 sc.nd (e_tup (a_cons e_int (a_cons e_int (a_cons (ev 1) a_nil)))))
      (b_cons (s_for (passes_of rfl) rfl (j_tup (ev 0)) (g_name 3 sc.nd) (b_one (s_set 2 sc.nd (e_call h_applied (hr.mono (by decide)) tk (a_cons (ev 3) (a_cons (ev 2) a_nil))))))
      (b_one (s_ret (ev 2)))))
theorem ok_cleaned (T : Tx K mg) : Has P w K mg base 1 "cleaned" ["shown"] sp_cleaned := by
  obtain ⟨fd, F⟩ := T.f_cleaned
  have sc := sc_cleaned
  refine Has.mk (N := N_cleaned) F sc T.g_cleaned (FunD.bindsN F fun _ _ _ _ _ _ us hl => match us, hl with | [_], _ => rfl) psp.mono (psp.len fun _ => rfl) pure_cleaned (fun cdv A outer s H E hr => ?_)
  have hu := hr.units
  have tk : Takes (cxOf (L2.CX P w) P w K mg base N_cleaned "cleaned" (defScope s_cleaned) (He.ga K "cleaned") cdv A outer s H E) (fun cls d _ H => E cls d H) := takes_of rfl rfl rfl rfl
  exact (b_cons (s_asg (ev 0) (g_tup rfl (gs_cons (g_name 1 sc.nd) (gs_cons (g_name 2 sc.nd) (gs_cons (g_name 3 sc.nd) gs_nil)))))
      (b_one (s_ret (e_tup (a_cons (e_if (t_cmp o_gt (ev 3) e_int) (ev 1) e_non) (a_cons (e_if (t_cmp o_gt (ev 3) e_int) (ev 2) e_non) (a_cons (ev 3) a_nil)))))))
theorem ok_clean (T : Tx K mg) : Has P w K mg base 5 "clean" ["chain", "length"] sp_clean := by
  obtain ⟨fd, F⟩ := T.f_clean
  have h_shown_by : Has P w K mg base 4 "shown_by" ["chain", "length"] sp_shown_by := ok_shown_by T
  have h_cleaned : Has P w K mg base 1 "cleaned" ["shown"] sp_cleaned := ok_cleaned T
  have sc := sc_clean
  refine Has.mk (N := N_clean) F sc T.g_clean (FunD.bindsN F fun _ _ _ _ _ _ us hl => match us, hl with | [_, _], _ => rfl) psp.mono (psp.len fun _ => rfl) pure_clean (fun cdv A outer s H E hr => ?_)
  have hu := hr.units
  have tk : Takes (cxOf (L2.CX P w) P w K mg base N_clean "clean" (defScope s_clean) (He.ga K "clean") cdv A outer s H E) (fun cls d _ H => E cls d H) := takes_of rfl rfl rfl rfl
  exact (b_one (s_ret (e_call h_cleaned (hr.mono (by decide)) tk (a_cons (e_call h_shown_by (hr.mono (by decide)) tk (a_cons (ev 0) (a_cons (ev 1) a_nil))) a_nil))))
theorem ok_threshold_of (T : Tx K mg) : Has P w K mg base 1 "threshold_of" ["chain"] sp_threshold_of := by
  obtain ⟨fd, F⟩ := T.f_threshold_of
  have sc := sc_threshold_of
  refine Has.mk (N := N_threshold_of) F sc T.g_threshold_of (FunD.bindsN F fun _ _ _ _ _ _ us hl => match us, hl with | [_], _ => rfl) psp.mono (psp.len fun _ => rfl) pure_threshold_of (fun cdv A outer s H E hr => ?_)
  have hu := hr.units
  have tk : Takes (cxOf (L2.CX P w) P w K mg base N_threshold_of "threshold_of" (defScope s_threshold_of) (He.ga K "threshold_of") cdv A outer s H E) (fun cls d _ H => E cls d H) := takes_of rfl rfl rfl rfl
  exact (b_cons (s_asg (e_tup (a_cons e_int (a_cons e_int a_nil))) (g_tup rfl (gs_cons (g_name 1 sc.nd) (gs_cons (g_name 2 sc.nd) gs_nil))))
      (b_cons (s_for (passes_of rfl) rfl (j_tup (ev 0)) (g_tup rfl (gs_cons (g_name 3 sc.nd) (gs_cons (g_name 4 sc.nd) (gs_cons (g_name 5 sc.nd) gs_nil)))) (b_cons (s_aug 1 sc.nd o_iadd (e_op o_mul (ev 2) (e_op o_add (e_op o_add e_int (e_callB c_abs T.m_abs boot_abs (a_cons (e_orT (ev 3) (e_one e_int)) a_nil))) (e_callB c_abs T.m_abs boot_abs (a_cons (e_orT (ev 4) (e_one e_int)) a_nil)))))
      (b_one (s_aug 2 sc.nd o_imul (e_callB c_abs T.m_abs boot_abs (a_cons (ev 5) a_nil))))))
      (b_one (s_ret (ev 1)))))
theorem ok_period_of (T : Tx K mg) : Has P w K mg base 1 "period_of" ["chain"] sp_period_of := by
  obtain ⟨fd, F⟩ := T.f_period_of
  have sc := sc_period_of
  refine Has.mk (N := N_period_of) F sc T.g_period_of (FunD.bindsN F fun _ _ _ _ _ _ us hl => match us, hl with | [_], _ => rfl) psp.mono (psp.len fun _ => rfl) pure_period_of (fun cdv A outer s H E hr => ?_)
  have hu := hr.units
  have tk : Takes (cxOf (L2.CX P w) P w K mg base N_period_of "period_of" (defScope s_period_of) (He.ga K "period_of") cdv A outer s H E) (fun cls d _ H => E cls d H) := takes_of rfl rfl rfl rfl
  exact (b_cons (s_set 1 sc.nd e_int)
      (b_cons (s_for (passes_of rfl) rfl (j_tup (ev 0)) (g_tup rfl (gs_cons (g_name 2 sc.nd) (gs_cons (g_name 3 sc.nd) (gs_cons (g_name 4 sc.nd) gs_nil)))) (b_one (s_aug 1 sc.nd o_imul (e_callB c_abs T.m_abs boot_abs (a_cons (ev 4) a_nil)))))
      (b_one (s_ret (ev 1)))))
theorem ok_common_multiple (T : Tx K mg) : Has P w K mg base 1 "common_multiple" ["one", "other"] sp_common_multiple := by
  obtain ⟨fd, F⟩ := T.f_common_multiple
  have sc := sc_common_multiple
  refine Has.mk (N := N_common_multiple) F sc T.g_common_multiple (FunD.bindsN F fun _ _ _ _ _ _ us hl => match us, hl with | [_, _], _ => rfl) psp.mono (psp.len fun _ => rfl) pure_common_multiple (fun cdv A outer s H E hr => ?_)
  have hu := hr.units
  have tk : Takes (cxOf (L2.CX P w) P w K mg base N_common_multiple "common_multiple" (defScope s_common_multiple) (He.ga K "common_multiple") cdv A outer s H E) (fun cls d _ H => E cls d H) := takes_of rfl rfl rfl rfl
  exact (b_cons (s_par 2 3 rfl sc.nd (a_cons (ev 0) (a_cons (ev 1) a_nil)))
      (b_cons (s_while (passes_of rfl) (t_tru (ev 3)) (b_one (s_par 2 3 rfl sc.nd (a_cons (ev 3) (a_cons (e_op o_mod (ev 2) (ev 3)) a_nil)))))
      (b_one (s_ret (e_op o_fdiv (e_op o_mul (ev 0) (ev 1)) (ev 2))))))
theorem ok_last_threshold (T : Tx K mg) : Has P w K mg base 2 "last_threshold" ["first", "second"] sp_last_threshold := by
  obtain ⟨fd, F⟩ := T.f_last_threshold
  have h_threshold_of : Has P w K mg base 1 "threshold_of" ["chain"] sp_threshold_of := ok_threshold_of T
  have sc := sc_last_threshold
  refine Has.mk (N := N_last_threshold) F sc T.g_last_threshold (FunD.bindsN F fun _ _ _ _ _ _ us hl => match us, hl with | [_, _], _ => rfl) psp.mono (psp.len fun _ => rfl) pure_last_threshold (fun cdv A outer s H E hr => ?_)
  have hu := hr.units
  have tk : Takes (cxOf (L2.CX P w) P w K mg base N_last_threshold "last_threshold" (defScope s_last_threshold) (He.ga K "last_threshold") cdv A outer s H E) (fun cls d _ H => E cls d H) := takes_of rfl rfl rfl rfl
  exact (b_one (s_ret (e_callB (c_max2 rfl) T.m_max boot_max (a_cons (e_call h_threshold_of (hr.mono (by decide)) tk (a_cons (ev 0) a_nil)) (a_cons (e_call h_threshold_of (hr.mono (by decide)) tk (a_cons (ev 1) a_nil)) a_nil)))))
theorem ok_both_periods (T : Tx K mg) : Has P w K mg base 2 "both_periods" ["first", "second"] sp_both_periods := by
  obtain ⟨fd, F⟩ := T.f_both_periods
  have h_period_of : Has P w K mg base 1 "period_of" ["chain"] sp_period_of := ok_period_of T
  have h_common_multiple : Has P w K mg base 1 "common_multiple" ["one", "other"] sp_common_multiple := ok_common_multiple T
  have sc := sc_both_periods
  refine Has.mk (N := N_both_periods) F sc T.g_both_periods (FunD.bindsN F fun _ _ _ _ _ _ us hl => match us, hl with | [_, _], _ => rfl) psp.mono (psp.len fun _ => rfl) pure_both_periods (fun cdv A outer s H E hr => ?_)
  have hu := hr.units
  have tk : Takes (cxOf (L2.CX P w) P w K mg base N_both_periods "both_periods" (defScope s_both_periods) (He.ga K "both_periods") cdv A outer s H E) (fun cls d _ H => E cls d H) := takes_of rfl rfl rfl rfl
  exact (b_one (s_ret (e_call h_common_multiple (hr.mono (by decide)) tk (a_cons (e_call h_period_of (hr.mono (by decide)) tk (a_cons (ev 0) a_nil)) (a_cons (e_call h_period_of (hr.mono (by decide)) tk (a_cons (ev 1) a_nil)) a_nil)))))
theorem ok_bound_for (T : Tx K mg) : Has P w K mg base 3 "bound_for" ["first", "second"] sp_bound_for := by
  obtain ⟨fd, F⟩ := T.f_bound_for
  have h_last_threshold : Has P w K mg base 2 "last_threshold" ["first", "second"] sp_last_threshold := ok_last_threshold T
  have h_both_periods : Has P w K mg base 2 "both_periods" ["first", "second"] sp_both_periods := ok_both_periods T
  have sc := sc_bound_for
  refine Has.mk (N := N_bound_for) F sc T.g_bound_for (FunD.bindsN F fun _ _ _ _ _ _ us hl => match us, hl with | [_, _], _ => rfl) psp.mono (psp.len fun _ => rfl) pure_bound_for (fun cdv A outer s H E hr => ?_)
  have hu := hr.units
  have tk : Takes (cxOf (L2.CX P w) P w K mg base N_bound_for "bound_for" (defScope s_bound_for) (He.ga K "bound_for") cdv A outer s H E) (fun cls d _ H => E cls d H) := takes_of rfl rfl rfl rfl
  exact (b_one (s_ret (e_op o_add (e_call h_last_threshold (hr.mono (by decide)) tk (a_cons (ev 0) (a_cons (ev 1) a_nil))) (e_op o_mul e_int (e_call h_both_periods (hr.mono (by decide)) tk (a_cons (ev 0) (a_cons (ev 1) a_nil)))))))
theorem ok_agree_at (T : Tx K mg) : Has P w K mg base 6 "agree_at" ["first", "second", "length"] sp_agree_at := by
  obtain ⟨fd, F⟩ := T.f_agree_at
  have h_clean : Has P w K mg base 5 "clean" ["chain", "length"] sp_clean := ok_clean T
  have sc := sc_agree_at
  refine Has.mk (N := N_agree_at) F sc T.g_agree_at (FunD.bindsN F fun _ _ _ _ _ _ us hl => match us, hl with | [_, _, _], _ => rfl) psp.mono (psp.len fun _ => rfl) pure_agree_at (fun cdv A outer s H E hr => ?_)
  have hu := hr.units
  have tk : Takes (cxOf (L2.CX P w) P w K mg base N_agree_at "agree_at" (defScope s_agree_at) (He.ga K "agree_at") cdv A outer s H E) (fun cls d _ H => E cls d H) := takes_of rfl rfl rfl rfl
  exact (b_one (s_ret (e_cmp (o_eqD hu) (e_call h_clean (hr.mono (by decide)) tk (a_cons (ev 0) (a_cons (ev 2) a_nil))) (e_call h_clean (hr.mono (by decide)) tk (a_cons (ev 1) (a_cons (ev 2) a_nil))))))
theorem ok_first_difference (T : Tx K mg) : Has P w K mg base 7 "first_difference" ["first", "second"] sp_first_difference := by
  obtain ⟨fd, F⟩ := T.f_first_difference
  have h_bound_for : Has P w K mg base 3 "bound_for" ["first", "second"] sp_bound_for := ok_bound_for T
  have h_agree_at : Has P w K mg base 6 "agree_at" ["first", "second", "length"] sp_agree_at := ok_agree_at T
  have sc := sc_first_difference
  refine Has.mk (N := N_first_difference) F sc T.g_first_difference (FunD.bindsN F fun _ _ _ _ _ _ us hl => match us, hl with | [_, _], _ => rfl) psp.mono (psp.len fun _ => rfl) pure_first_difference (fun cdv A outer s H E hr => ?_)
  have hu := hr.units
  have tk : Takes (cxOf (L2.CX P w) P w K mg base N_first_difference "first_difference" (defScope s_first_difference) (He.ga K "first_difference") cdv A outer s H E) (fun cls d _ H => E cls d H) := takes_of rfl rfl rfl rfl
  exact (b_cons (s_for (passes_of rfl) rfl (j_range1 (e_call h_bound_for (hr.mono (by decide)) tk (a_cons (ev 0) (a_cons (ev 1) a_nil))) T.m_range) (g_name 2 sc.nd) (b_one (s_if (t_not (t_val (e_call h_agree_at (hr.mono (by decide)) tk (a_cons (ev 0) (a_cons (ev 1) (a_cons (ev 2) a_nil)))))) (b_one (s_ret (ev 2))) b_nil)))
      (b_one (s_ret e_non)))
theorem ok_are_equal (T : Tx K mg) : Has P w K mg base 8 "are_equal" ["first", "second"] sp_are_equal := by
  obtain ⟨fd, F⟩ := T.f_are_equal
  have h_first_difference : Has P w K mg base 7 "first_difference" ["first", "second"] sp_first_difference := ok_first_difference T
  have sc := sc_are_equal
  refine Has.mk (N := N_are_equal) F sc T.g_are_equal (FunD.bindsN F fun _ _ _ _ _ _ us hl => match us, hl with | [_, _], _ => rfl) psp.mono (psp.len fun _ => rfl) pure_are_equal (fun cdv A outer s H E hr => ?_)
  have hu := hr.units
  have tk : Takes (cxOf (L2.CX P w) P w K mg base N_are_equal "are_equal" (defScope s_are_equal) (He.ga K "are_equal") cdv A outer s H E) (fun cls d _ H => E cls d H) := takes_of rfl rfl rfl rfl
  exact (b_one (s_ret (e_cmp o_isN (e_call h_first_difference (hr.mono (by decide)) tk (a_cons (ev 0) (a_cons (ev 1) a_nil))) e_non)))
theorem ok_without (T : Tx K mg) : Has P w K mg base 1 "without" ["chain", "index"] sp_without := by
  obtain ⟨fd, F⟩ := T.f_without
  have sc := sc_without
  refine Has.mk (N := N_without) F sc T.g_without (FunD.bindsN F fun _ _ _ _ _ _ us hl => match us, hl with | [_, _], _ => rfl) psp.mono (psp.len fun _ => rfl) pure_without (fun cdv A outer s H E hr => ?_)
  have hu := hr.units
  have tk : Takes (cxOf (L2.CX P w) P w K mg base N_without "without" (defScope s_without) (He.ga K "without") cdv A outer s H E) (fun cls d _ H => E cls d H) := takes_of rfl rfl rfl rfl
  exact (b_one (s_ret (e_op o_catT (e_slice s_tup (ev 0) p_none (p_some (ev 1))) (e_slice s_tup (ev 0) (p_some (e_op o_add (ev 1) e_int)) p_none))))
theorem ok_needless (T : Tx K mg) : Has P w K mg base 9 "needless" ["chain"] sp_needless := by
  obtain ⟨fd, F⟩ := T.f_needless
  have h_require_chain : Has P w K mg base 5 "require_chain" ["chain"] sp_require_chain := ok_require_chain T
  have h_are_equal : Has P w K mg base 8 "are_equal" ["first", "second"] sp_are_equal := ok_are_equal T
  have h_without : Has P w K mg base 1 "without" ["chain", "index"] sp_without := ok_without T
  have sc := sc_needless
  refine Has.mk (N := N_needless) F sc T.g_needless (FunD.bindsN F fun _ _ _ _ _ _ us hl => match us, hl with | [_], _ => rfl) lsp.mono (lsp.len fun _ => rfl) pure_needless (fun cdv A outer s H E hr => ?_)
  have hu := hr.units
  have tk : Takes (cxOf (L2.CX P w) P w K mg base N_needless "needless" (defScope s_needless) (He.ga K "needless") cdv A outer s H E) (fun cls d _ H => E cls d H) := takes_of rfl rfl rfl rfl
  exact (b_cons (s_expr (e_call h_require_chain (hr.mono (by decide)) tk (a_cons (ev 0) a_nil)))
      (b_one (s_ret (e_lc (own := [("index", 1)]) rfl sc.nd (j_range1 (e_callB c_len T.m_len boot_len (a_cons (ev 0) a_nil)) T.m_range) (blkOk_by (N := N_needless) (sc := defScope s_needless) (by decide +kernel)) (cg_name 1) (fun _ _ _ _ _ => pg_name (i := 1) sc.nd rfl (Or.inl rfl)) (fun _ _ _ _ _ => (f_one (t_val (e_call h_are_equal (hr.mono (by decide)) takes0 (a_cons (e_call h_without (hr.mono (by decide)) takes0 (a_cons (ev 0) (a_cons (ev 1) a_nil))) (a_cons (ev 0) a_nil)))))) (fun _ _ _ _ _ => (ev 1))))))
theorem ok_shortest_part (T : Tx K mg) : Has P w K mg base 9 "shortest_part" ["chain"] sp_shortest_part := by
  obtain ⟨fd, F⟩ := T.f_shortest_part
  have h_require_chain : Has P w K mg base 5 "require_chain" ["chain"] sp_require_chain := ok_require_chain T
  have h_are_equal : Has P w K mg base 8 "are_equal" ["first", "second"] sp_are_equal := ok_are_equal T
  have sc := sc_shortest_part
  refine Has.mk (N := N_shortest_part) F sc T.g_shortest_part (FunD.bindsN F fun _ _ _ _ _ _ us hl => match us, hl with | [_], _ => rfl) psp.mono (psp.len fun _ => rfl) pure_shortest_part (fun cdv A outer s H E hr => ?_)
  have hu := hr.units
  have tk : Takes (cxOf (L2.CX P w) P w K mg base N_shortest_part "shortest_part" (defScope s_shortest_part) (He.ga K "shortest_part") cdv A outer s H E) (fun cls d _ H => E cls d H) := takes_of rfl rfl rfl rfl
  exact (b_cons (s_expr (e_call h_require_chain (hr.mono (by decide)) tk (a_cons (ev 0) a_nil)))
      (b_cons (s_set 1 sc.nd (e_lst (a_cons (e_tup a_nil) a_nil)))
      (b_cons (s_for (passes_of rfl) rfl (j_range1 (e_callB c_len T.m_len boot_len (a_cons (ev 0) a_nil)) T.m_range) (g_name 2 sc.nd) (b_one (s_aug 1 sc.nd o_iaddL (e_lcC (own := [("part", 4)]) rfl sc.nd (ev 1) (blkOk_by (N := N_shortest_part) (sc := defScope s_shortest_part) (by decide +kernel)) (cg_name 4) (fun _ _ _ _ _ => pg_name (i := 4) sc.nd rfl (Or.inl rfl)) (fun _ _ _ _ _ => f_nil) (fun _ _ _ _ _ => (e_op o_catT (ev 4) (e_tup (a_cons (ev 2) a_nil))))))))
      (b_cons (s_for (passes_of rfl) rfl (j_lst (e_callB (c_sortD hu) T.m_sorted boot_sorted (a_cons (e_lcC (own := [("part", 4)]) rfl sc.nd (ev 1) (blkOk_by (N := N_shortest_part) (sc := defScope s_shortest_part) (by decide +kernel)) (cg_name 4) (fun _ _ _ _ _ => pg_name (i := 4) sc.nd rfl (Or.inl rfl)) (fun _ _ _ _ _ => f_nil) (fun _ _ _ _ _ => (e_tup (a_cons (e_callB c_len T.m_len boot_len (a_cons (ev 4) a_nil)) (a_cons (ev 4) a_nil))))) a_nil))) (g_tup rfl (gs_cons (g_name 3 sc.nd) (gs_cons (g_name 4 sc.nd) gs_nil))) (b_one (s_if (t_val (e_call h_are_equal (hr.mono (by decide)) tk (a_cons (e_callTy c_tuple T.m_tuple boot_tuple (a_cons (e_lc (own := [("index", 2)]) rfl sc.nd (j_tup (ev 4)) (blkOk_by (N := N_shortest_part) (sc := defScope s_shortest_part) (by decide +kernel)) (cg_name 2) (fun _ _ _ _ _ => pg_name (i := 2) sc.nd rfl (Or.inl rfl)) (fun _ _ _ _ _ => f_nil) (fun _ _ _ _ _ => (e_ix i_seq (ev 0) (ev 2)))) a_nil)) (a_cons (ev 0) a_nil)))) (b_one (s_ret (ev 4))) b_nil)))
      (b_one (s_ret (e_tupleR1 T.m_tuple T.m_range (e_callB c_len T.m_len boot_len (a_cons (ev 0) a_nil)))))))))
theorem ok__law_bag (T : Tx K mg) : Has P w K mg base 1 "_law_bag" ["_law_script", "_law_k"] sp__law_bag := by
  obtain ⟨fd, F⟩ := T.f__law_bag
  have sc := sc__law_bag
  refine Has.mk (N := N__law_bag) F sc T.g__law_bag (FunD.bindsN F fun _ _ _ _ _ _ us hl => match us, hl with | [_, _], _ => rfl) bag_mono bag_len pure__law_bag (fun cdv A outer s H E hr => ?_)
  have hu := hr.units
  have tk : Takes (cxOf (L2.CX P w) P w K mg base N__law_bag "_law_bag" (defScope s__law_bag) (He.ga K "_law_bag") cdv A outer s H E) (fun cls d _ H => E cls d H) := takes_of rfl rfl rfl rfl
  exact (b_cons (s_set 2 sc.nd e_int)
      (b_cons (s_if (t_cmp o_lt (ev 1) (e_callB c_len T.m_len boot_len (a_cons (ev 0) a_nil))) (b_one (s_set 2 sc.nd (e_op o_mod (e_ix i_seq (ev 0) (ev 1)) (e_op o_pow e_int e_int)))) b_nil)
      (b_cons (s_set 3 sc.nd (e_op o_add e_int (e_op o_mod (e_op o_add (e_op o_add (e_op o_add (e_op o_mul (e_op o_mod (ev 2) e_int) e_int) (e_op o_mul (e_op o_mul e_int (ev 1)) (ev 1))) (e_op o_mul e_int (ev 1))) e_int) e_int)))
      (b_cons (s_if (t_cmp o_lt (ev 2) (e_op o_pow e_int e_int)) (b_one (s_ret (e_lst (a_cons e_int (a_cons (ev 3) a_nil))))) b_nil)
      (b_one (s_ret (e_lst (a_cons (ev 2) (a_cons (ev 3) a_nil)))))))))
theorem ok__law_take (T : Tx K mg) : Has P w K mg base 1 "_law_take" ["_law_bag_here", "_law_count"] sp__law_take := by
  obtain ⟨fd, F⟩ := T.f__law_take
  have sc := sc__law_take
  refine Has.mk (N := N__law_take) F sc T.g__law_take (FunD.bindsN F fun _ _ _ _ _ _ us hl => match us, hl with | [_, _], _ => rfl) bsp.mono (bsp.len fun _ => rfl) pure__law_take (fun cdv A outer s H E hr => ?_)
  have hu := hr.units
  have tk : Takes (cxOf (L2.CX P w) P w K mg base N__law_take "_law_take" (defScope s__law_take) (He.ga K "_law_take") cdv A outer s H E) (fun cls d _ H => E cls d H) := takes_of rfl rfl rfl rfl
  exact (b_cons (s_if (t_cmp o_gt (e_ix i_seq (ev 0) e_int) e_int) (b_cons (s_set 2 sc.nd (e_op o_mod (e_ix i_seq (ev 0) e_int) (ev 1)))
      (b_cons (s_store (e_op o_fdiv (e_ix i_seq (ev 0) e_int) (ev 1)) (ev 0) e_int)
      (b_one (s_ret (ev 2))))) b_nil)
      (b_cons (s_store (e_op o_mod (e_op o_mul (e_ix i_seq (ev 0) e_int) e_int) e_int) (ev 0) e_int)
      (b_one (s_ret (e_op o_mod (e_op o_fdiv (e_op o_mod (e_op o_mul (e_op o_fdiv (e_ix i_seq (ev 0) e_int) e_int) (e_op o_add (e_op o_mod (e_ix i_seq (ev 0) e_int) e_int) e_int)) e_int) e_int) (ev 1))))))
theorem ok__law_of (T : Tx K mg) : Has P w K mg base 2 "_law_of" ["_law_bag_here", "_law_some"] sp__law_of := by
  obtain ⟨fd, F⟩ := T.f__law_of
  have h__law_take : Has P w K mg base 1 "_law_take" ["_law_bag_here", "_law_count"] sp__law_take := ok__law_take T
  have sc := sc__law_of
  refine Has.mk (N := N__law_of) F sc T.g__law_of (FunD.bindsN F fun _ _ _ _ _ _ us hl => match us, hl with | [_, _], _ => rfl) bsp.mono (bsp.len fun _ => rfl) pure__law_of (fun cdv A outer s H E hr => ?_)
  have hu := hr.units
  have tk : Takes (cxOf (L2.CX P w) P w K mg base N__law_of "_law_of" (defScope s__law_of) (He.ga K "_law_of") cdv A outer s H E) (fun cls d _ H => E cls d H) := takes_of rfl rfl rfl rfl
  exact (b_one (s_ret (e_ix i_seq (ev 1) (e_call h__law_take (hr.mono (by decide)) tk (a_cons (ev 0) (a_cons (e_callB c_len T.m_len boot_len (a_cons (ev 1) a_nil)) a_nil))))))
theorem ok__law_bound (T : Tx K mg) : Has P w K mg base 3 "_law_bound" ["_law_bag_here", "_law_wide"] sp__law_bound := by
  obtain ⟨fd, F⟩ := T.f__law_bound
  have h__law_take : Has P w K mg base 1 "_law_take" ["_law_bag_here", "_law_count"] sp__law_take := ok__law_take T
  have h__law_of : Has P w K mg base 2 "_law_of" ["_law_bag_here", "_law_some"] sp__law_of := ok__law_of T
  have sc := sc__law_bound
  refine Has.mk (N := N__law_bound) F sc T.g__law_bound (FunD.bindsN F fun _ _ _ _ _ _ us hl => match us, hl with | [_, _], _ => rfl) bsp.mono (bsp.len fun _ => rfl) pure__law_bound (fun cdv A outer s H E hr => ?_)
  have hu := hr.units
  have tk : Takes (cxOf (L2.CX P w) P w K mg base N__law_bound "_law_bound" (defScope s__law_bound) (He.ga K "_law_bound") cdv A outer s H E) (fun cls d _ H => E cls d H) := takes_of rfl rfl rfl rfl
  exact (b_one (s_ret (e_call h__law_of (hr.mono (by decide)) tk (a_cons (ev 0) (a_cons (e_lst (a_cons e_non (a_cons e_non (a_cons e_int (a_cons e_int (a_cons (e_un u_neg e_int) (a_cons (e_call h__law_take (hr.mono (by decide)) tk (a_cons (ev 0) (a_cons (e_op o_add (ev 1) e_int) a_nil))) (a_cons (e_op o_sub e_int (e_call h__law_take (hr.mono (by decide)) tk (a_cons (ev 0) (a_cons (e_op o_add (ev 1) e_int) a_nil)))) a_nil)))))))) a_nil)))))
theorem ok__law_slice (T : Tx K mg) : Has P w K mg base 4 "_law_slice" ["_law_bag_here", "_law_wide"] sp__law_slice := by
  obtain ⟨fd, F⟩ := T.f__law_slice
  have h__law_of : Has P w K mg base 2 "_law_of" ["_law_bag_here", "_law_some"] sp__law_of := ok__law_of T
  have h__law_bound : Has P w K mg base 3 "_law_bound" ["_law_bag_here", "_law_wide"] sp__law_bound := ok__law_bound T
  have sc := sc__law_slice
  refine Has.mk (N := N__law_slice) F sc T.g__law_slice (FunD.bindsN F fun _ _ _ _ _ _ us hl => match us, hl with | [_, _], _ => rfl) bsp.mono (bsp.len fun _ => rfl) pure__law_slice (fun cdv A outer s H E hr => ?_)
  have hu := hr.units
  have tk : Takes (cxOf (L2.CX P w) P w K mg base N__law_slice "_law_slice" (defScope s__law_slice) (He.ga K "_law_slice") cdv A outer s H E) (fun cls d _ H => E cls d H) := takes_of rfl rfl rfl rfl
  exact (b_one (s_ret (e_tup (a_cons (e_call h__law_bound (hr.mono (by decide)) tk (a_cons (ev 0) (a_cons (ev 1) a_nil))) (a_cons (e_call h__law_bound (hr.mono (by decide)) tk (a_cons (ev 0) (a_cons (ev 1) a_nil))) (a_cons (e_call h__law_of (hr.mono (by decide)) tk (a_cons (ev 0) (a_cons (e_lst (a_cons e_int (a_cons e_int (a_cons e_int (a_cons (e_un u_neg e_int) (a_cons (e_un u_neg e_int) (a_cons e_int (a_cons (e_un u_neg e_int) a_nil)))))))) a_nil))) a_nil))))))
theorem ok__law_chain (T : Tx K mg) : Has P w K mg base 5 "_law_chain" ["_law_bag_here", "_law_most", "_law_wide"] sp__law_chain := by
  obtain ⟨fd, F⟩ := T.f__law_chain
  have h__law_take : Has P w K mg base 1 "_law_take" ["_law_bag_here", "_law_count"] sp__law_take := ok__law_take T
  have h__law_slice : Has P w K mg base 4 "_law_slice" ["_law_bag_here", "_law_wide"] sp__law_slice := ok__law_slice T
  have sc := sc__law_chain
  refine Has.mk (N := N__law_chain) F sc T.g__law_chain (FunD.bindsN F fun _ _ _ _ _ _ us hl => match us, hl with | [_, _, _], _ => rfl) bsp.mono (bsp.len fun _ => rfl) pure__law_chain (fun cdv A outer s H E hr => ?_)
  have hu := hr.units
  have tk : Takes (cxOf (L2.CX P w) P w K mg base N__law_chain "_law_chain" (defScope s__law_chain) (He.ga K "_law_chain") cdv A outer s H E) (fun cls d _ H => E cls d H) := takes_of rfl rfl rfl rfl
  exact (b_one (s_ret (e_callTy c_tuple T.m_tuple boot_tuple (a_cons (e_lc (own := [("_law_turn", 3)]) rfl sc.nd (j_range1 (e_call h__law_take (hr.mono (by decide)) tk (a_cons (ev 0) (a_cons (e_op o_add (ev 1) e_int) a_nil))) T.m_range) (blkOk_by (N := N__law_chain) (sc := defScope s__law_chain) (by decide +kernel)) (cg_name 3) (fun _ _ _ _ _ => pg_name (i := 3) sc.nd rfl (Or.inl rfl)) (fun _ _ _ _ _ => f_nil) (fun _ _ _ _ _ => (e_call h__law_slice (hr.mono (by decide)) takes0 (a_cons (ev 0) (a_cons (ev 2) a_nil))))) a_nil))))
theorem ok__law_part (T : Tx K mg) : Has P w K mg base 1 "_law_part" ["_law_one", "_law_c"] sp__law_part := by
  obtain ⟨fd, F⟩ := T.f__law_part
  have sc := sc__law_part
  refine Has.mk (N := N__law_part) F sc T.g__law_part (FunD.bindsN F fun _ _ _ _ _ _ us hl => match us, hl with | [_, _], _ => rfl) psp.mono (psp.len fun _ => rfl) pure__law_part (fun cdv A outer s H E hr => ?_)
  have hu := hr.units
  have tk : Takes (cxOf (L2.CX P w) P w K mg base N__law_part "_law_part" (defScope s__law_part) (He.ga K "_law_part") cdv A outer s H E) (fun cls d _ H => E cls d H) := takes_of rfl rfl rfl rfl
  exact (b_cons (s_asg (ev 0) (g_tup rfl (gs_cons (g_name 2 sc.nd) (gs_cons (g_name 3 sc.nd) (gs_cons (g_name 4 sc.nd) gs_nil)))))
      (b_cons (s_if (t_cmp o_gt (ev 4) e_int) (b_cons (s_set 5 sc.nd (e_if (t_cmp o_isN (ev 2) e_non) e_int (e_if (t_cmp o_lt (ev 2) e_int) (e_callB (c_max2 rfl) T.m_max boot_max (a_cons e_int (a_cons (e_op o_add (ev 2) (ev 1)) a_nil))) (e_callB (c_min2 rfl) T.m_min boot_min (a_cons (ev 2) (a_cons (ev 1) a_nil))))))
      (b_cons (s_set 6 sc.nd (e_if (t_cmp o_isN (ev 3) e_non) (ev 1) (e_if (t_cmp o_lt (ev 3) e_int) (e_callB (c_max2 rfl) T.m_max boot_max (a_cons e_int (a_cons (e_op o_add (ev 3) (ev 1)) a_nil))) (e_callB (c_min2 rfl) T.m_min boot_min (a_cons (ev 3) (a_cons (ev 1) a_nil))))))
      (b_one (s_ret (e_tup (a_cons (ev 5) (a_cons (e_op o_fdiv (e_op o_sub (e_op o_add (e_callB (c_max2 rfl) T.m_max boot_max (a_cons e_int (a_cons (e_op o_sub (ev 6) (ev 5)) a_nil))) (ev 4)) e_int) (ev 4)) a_nil))))))) b_nil)
      (b_cons (s_set 5 sc.nd (e_if (t_cmp o_isN (ev 2) e_non) (e_op o_sub (ev 1) e_int) (e_if (t_cmp o_lt (ev 2) e_int) (e_callB (c_max2 rfl) T.m_max boot_max (a_cons (e_un u_neg e_int) (a_cons (e_op o_add (ev 2) (ev 1)) a_nil))) (e_callB (c_min2 rfl) T.m_min boot_min (a_cons (ev 2) (a_cons (e_op o_sub (ev 1) e_int) a_nil))))))
      (b_cons (s_set 6 sc.nd (e_if (t_cmp o_isN (ev 3) e_non) (e_un u_neg e_int) (e_if (t_cmp o_lt (ev 3) e_int) (e_callB (c_max2 rfl) T.m_max boot_max (a_cons (e_un u_neg e_int) (a_cons (e_op o_add (ev 3) (ev 1)) a_nil))) (e_callB (c_min2 rfl) T.m_min boot_min (a_cons (ev 3) (a_cons (e_op o_sub (ev 1) e_int) a_nil))))))
      (b_one (s_ret (e_tup (a_cons (ev 5) (a_cons (e_op o_fdiv (e_op o_sub (e_op o_add (e_callB (c_max2 rfl) T.m_max boot_max (a_cons e_int (a_cons (e_op o_sub (ev 5) (ev 6)) a_nil))) (e_callB c_abs T.m_abs boot_abs (a_cons (ev 4) a_nil))) e_int) (e_callB c_abs T.m_abs boot_abs (a_cons (ev 4) a_nil))) a_nil)))))))))
theorem ok__law_shown (T : Tx K mg) : Has P w K mg base 2 "_law_shown" ["_law_chain_here", "_law_length"] sp__law_shown := by
  obtain ⟨fd, F⟩ := T.f__law_shown
  have h__law_part : Has P w K mg base 1 "_law_part" ["_law_one", "_law_c"] sp__law_part := ok__law_part T
  have sc := sc__law_shown
  refine Has.mk (N := N__law_shown) F sc T.g__law_shown (FunD.bindsN F fun _ _ _ _ _ _ us hl => match us, hl with | [_, _], _ => rfl) psp.mono (psp.len fun _ => rfl) pure__law_shown (fun cdv A outer s H E hr => ?_)
  have hu := hr.units
  have tk : Takes (cxOf (L2.CX P w) P w K mg base N__law_shown "_law_shown" (defScope s__law_shown) (He.ga K "_law_shown") cdv A outer s H E) (fun cls d _ H => E cls d H) := takes_of rfl rfl rfl rfl
  exact (b_cons (s_par3 2 3 4 rfl sc.nd (a_cons e_int (a_cons e_int (a_cons (ev 1) a_nil))))
      (b_cons (s_for (passes_of rfl) rfl (j_tup (ev 0)) (g_name 5 sc.nd) (b_cons (s_asg (e_call h__law_part (hr.mono (by decide)) tk (a_cons (ev 5) (a_cons (ev 4) a_nil))) (g_tup rfl (gs_cons (g_name 6 sc.nd) (gs_cons (g_name 7 sc.nd) gs_nil))))
      (b_one (s_par3 2 3 4 rfl sc.nd (a_cons (e_op o_add (ev 2) (e_op o_mul (ev 3) (ev 6))) (a_cons (e_op o_mul (ev 3) (e_ix i_seq (ev 5) e_int)) (a_cons (ev 7) a_nil)))))))
      (b_one (s_ret (e_tup (a_cons (e_if (t_cmp o_gt (ev 4) e_int) (ev 2) e_non) (a_cons (e_if (t_cmp o_gt (ev 4) e_int) (ev 3) e_non) (a_cons (ev 4) a_nil))))))))
theorem ok__law_weights (T : Tx K mg) : Has P w K mg base 1 "_law_weights" ["_law_chain_here"] sp__law_weights := by
  obtain ⟨fd, F⟩ := T.f__law_weights
  have sc := sc__law_weights
  refine Has.mk (N := N__law_weights) F sc T.g__law_weights (FunD.bindsN F fun _ _ _ _ _ _ us hl => match us, hl with | [_], _ => rfl) psp.mono (psp.len fun _ => rfl) pure__law_weights (fun cdv A outer s H E hr => ?_)
  have hu := hr.units
  have tk : Takes (cxOf (L2.CX P w) P w K mg base N__law_weights "_law_weights" (defScope s__law_weights) (He.ga K "_law_weights") cdv A outer s H E) (fun cls d _ H => E cls d H) := takes_of rfl rfl rfl rfl
  exact (b_cons (s_asg (e_tup (a_cons e_int (a_cons e_int a_nil))) (g_tup rfl (gs_cons (g_name 1 sc.nd) (gs_cons (g_name 2 sc.nd) gs_nil))))
      (b_cons (s_for (passes_of rfl) rfl (j_tup (ev 0)) (g_tup rfl (gs_cons (g_name 3 sc.nd) (gs_cons (g_name 4 sc.nd) (gs_cons (g_name 5 sc.nd) gs_nil)))) (b_cons (s_set 1 sc.nd (e_op o_add (ev 1) (e_op o_mul (ev 2) (e_op o_add (e_op o_add e_int (e_callB c_abs T.m_abs boot_abs (a_cons (e_orT (ev 3) (e_one e_int)) a_nil))) (e_callB c_abs T.m_abs boot_abs (a_cons (e_orT (ev 4) (e_one e_int)) a_nil))))))
      (b_one (s_set 2 sc.nd (e_op o_mul (ev 2) (e_callB c_abs T.m_abs boot_abs (a_cons (ev 5) a_nil)))))))
      (b_one (s_ret (e_tup (a_cons (ev 1) (a_cons (ev 2) a_nil)))))))
theorem ok__law_multiple (T : Tx K mg) : Has P w K mg base 1 "_law_multiple" ["_law_one", "_law_other"] sp__law_multiple := by
  obtain ⟨fd, F⟩ := T.f__law_multiple
  have sc := sc__law_multiple
  refine Has.mk (N := N__law_multiple) F sc T.g__law_multiple (FunD.bindsN F fun _ _ _ _ _ _ us hl => match us, hl with | [_, _], _ => rfl) psp.mono (psp.len fun _ => rfl) pure__law_multiple (fun cdv A outer s H E hr => ?_)
  have hu := hr.units
  have tk : Takes (cxOf (L2.CX P w) P w K mg base N__law_multiple "_law_multiple" (defScope s__law_multiple) (He.ga K "_law_multiple") cdv A outer s H E) (fun cls d _ H => E cls d H) := takes_of rfl rfl rfl rfl
  exact (b_cons (s_set 2 sc.nd (ev 0))
      (b_cons (s_while (passes_of rfl) (t_cmp o_ne (e_op o_mod (ev 2) (ev 1)) e_int) (b_one (s_set 2 sc.nd (e_op o_add (ev 2) (ev 0)))))
      (b_one (s_ret (ev 2)))))
theorem ok__law_limit (T : Tx K mg) : Has P w K mg base 2 "_law_limit" ["_law_first", "_law_second"] sp__law_limit := by
  obtain ⟨fd, F⟩ := T.f__law_limit
  have h__law_weights : Has P w K mg base 1 "_law_weights" ["_law_chain_here"] sp__law_weights := ok__law_weights T
  have h__law_multiple : Has P w K mg base 1 "_law_multiple" ["_law_one", "_law_other"] sp__law_multiple := ok__law_multiple T
  have sc := sc__law_limit
  refine Has.mk (N := N__law_limit) F sc T.g__law_limit (FunD.bindsN F fun _ _ _ _ _ _ us hl => match us, hl with | [_, _], _ => rfl) psp.mono (psp.len fun _ => rfl) pure__law_limit (fun cdv A outer s H E hr => ?_)
  have hu := hr.units
  have tk : Takes (cxOf (L2.CX P w) P w K mg base N__law_limit "_law_limit" (defScope s__law_limit) (He.ga K "_law_limit") cdv A outer s H E) (fun cls d _ H => E cls d H) := takes_of rfl rfl rfl rfl
  exact (b_cons (s_par 2 3 rfl sc.nd (a_cons (e_call h__law_weights (hr.mono (by decide)) tk (a_cons (ev 0) a_nil)) (a_cons (e_call h__law_weights (hr.mono (by decide)) tk (a_cons (ev 1) a_nil)) a_nil)))
      (b_one (s_ret (e_tup (a_cons (e_callB (c_max2 rfl) T.m_max boot_max (a_cons (e_ix i_seq (ev 2) e_int) (a_cons (e_ix i_seq (ev 3) e_int) a_nil))) (a_cons (e_call h__law_multiple (hr.mono (by decide)) tk (a_cons (e_ix i_seq (ev 2) e_int) (a_cons (e_ix i_seq (ev 3) e_int) a_nil))) a_nil))))))
theorem ok__law_unlike (T : Tx K mg) : Has P w K mg base 3 "_law_unlike" ["_law_first", "_law_second"] sp__law_unlike := by
  obtain ⟨fd, F⟩ := T.f__law_unlike
  have h__law_shown : Has P w K mg base 2 "_law_shown" ["_law_chain_here", "_law_length"] sp__law_shown := ok__law_shown T
  have h__law_limit : Has P w K mg base 2 "_law_limit" ["_law_first", "_law_second"] sp__law_limit := ok__law_limit T
  have sc := sc__law_unlike
  refine Has.mk (N := N__law_unlike) F sc T.g__law_unlike (FunD.bindsN F fun _ _ _ _ _ _ us hl => match us, hl with | [_, _], _ => rfl) psp.mono (psp.len fun _ => rfl) pure__law_unlike (fun cdv A outer s H E hr => ?_)
  have hu := hr.units
  have tk : Takes (cxOf (L2.CX P w) P w K mg base N__law_unlike "_law_unlike" (defScope s__law_unlike) (He.ga K "_law_unlike") cdv A outer s H E) (fun cls d _ H => E cls d H) := takes_of rfl rfl rfl rfl
  exact (b_cons (s_asg (e_call h__law_limit (hr.mono (by decide)) tk (a_cons (ev 0) (a_cons (ev 1) a_nil))) (g_tup rfl (gs_cons (g_name 2 sc.nd) (gs_cons (g_name 3 sc.nd) gs_nil))))
      (b_cons (s_for (passes_of rfl) rfl (j_range1 (e_op o_add (ev 2) (e_op o_mul e_int (ev 3))) T.m_range) (g_name 4 sc.nd) (b_one (s_if (t_cmp (o_neD hu) (e_call h__law_shown (hr.mono (by decide)) tk (a_cons (ev 0) (a_cons (ev 4) a_nil))) (e_call h__law_shown (hr.mono (by decide)) tk (a_cons (ev 1) (a_cons (ev 4) a_nil)))) (b_one (s_ret (ev 4))) b_nil)))
      (b_one (s_ret e_non))))
theorem ok__law_padded (T : Tx K mg) : Has P w K mg base 6 "_law_padded" ["_law_bag_here"] sp__law_padded := by
  obtain ⟨fd, F⟩ := T.f__law_padded
  have h__law_take : Has P w K mg base 1 "_law_take" ["_law_bag_here", "_law_count"] sp__law_take := ok__law_take T
  have h__law_of : Has P w K mg base 2 "_law_of" ["_law_bag_here", "_law_some"] sp__law_of := ok__law_of T
  have h__law_slice : Has P w K mg base 4 "_law_slice" ["_law_bag_here", "_law_wide"] sp__law_slice := ok__law_slice T
  have h__law_chain : Has P w K mg base 5 "_law_chain" ["_law_bag_here", "_law_most", "_law_wide"] sp__law_chain := ok__law_chain T
  have sc := sc__law_padded
  refine Has.mk (N := N__law_padded) F sc T.g__law_padded (FunD.bindsN F fun _ _ _ _ _ _ us hl => match us, hl with | [_], _ => rfl) bsp.mono (bsp.len fun _ => rfl) pure__law_padded (fun cdv A outer s H E hr => ?_)
  have hu := hr.units
  have tk : Takes (cxOf (L2.CX P w) P w K mg base N__law_padded "_law_padded" (defScope s__law_padded) (He.ga K "_law_padded") cdv A outer s H E) (fun cls d _ H => E cls d H) := takes_of rfl rfl rfl rfl
  exact (b_cons (s_set 1 sc.nd (e_call h__law_chain (hr.mono (by decide)) tk (a_cons (ev 0) (a_cons e_int (a_cons e_int a_nil)))))
      (b_cons (s_for (passes_of rfl) rfl (j_range1 e_int T.m_range) (g_name 2 sc.nd) (b_cons (s_set 3 sc.nd (e_call h__law_take (hr.mono (by decide)) tk (a_cons (ev 0) (a_cons (e_op o_add (e_callB c_len T.m_len boot_len (a_cons (ev 1) a_nil)) e_int) a_nil))))
      (b_cons (s_set 4 sc.nd (e_call h__law_of (hr.mono (by decide)) tk (a_cons (ev 0) (a_cons (e_lst (a_cons (e_tup (a_cons e_non (a_cons e_non (a_cons e_int a_nil)))) (a_cons (e_tup (a_cons e_int (a_cons e_non (a_cons e_int a_nil)))) (a_cons (e_tup (a_cons e_non (a_cons e_int (a_cons e_int a_nil)))) (a_cons (e_tup (a_cons e_non (a_cons e_non (a_cons (e_un u_neg e_int) a_nil)))) (a_cons (e_call h__law_slice (hr.mono (by decide)) tk (a_cons (ev 0) (a_cons e_int a_nil))) a_nil)))))) a_nil))))
      (b_one (s_set 1 sc.nd (e_op o_catT (e_op o_catT (e_slice s_tup (ev 1) p_none (p_some (ev 3))) (e_tup (a_cons (ev 4) a_nil))) (e_slice s_tup (ev 1) (p_some (ev 3)) p_none)))))))
      (b_one (s_ret (ev 1)))))
theorem ok__law_parts (T : Tx K mg) : Has P w K mg base 1 "_law_parts" ["_law_many"] sp__law_parts := by
  obtain ⟨fd, F⟩ := T.f__law_parts
  have sc := sc__law_parts
  refine Has.mk (N := N__law_parts) F sc T.g__law_parts (FunD.bindsN F fun _ _ _ _ _ _ us hl => match us, hl with | [_], _ => rfl) lsp.mono (lsp.len fun _ => rfl) pure__law_parts (fun cdv A outer s H E hr => ?_)
  have hu := hr.units
  have tk : Takes (cxOf (L2.CX P w) P w K mg base N__law_parts "_law_parts" (defScope s__law_parts) (He.ga K "_law_parts") cdv A outer s H E) (fun cls d _ H => E cls d H) := takes_of rfl rfl rfl rfl
  exact (b_cons (s_set 1 sc.nd (e_lst (a_cons (e_tup a_nil) a_nil)))
      (b_cons (s_for (passes_of rfl) rfl (j_range1 (ev 0) T.m_range) (g_name 2 sc.nd) (b_one (s_set 1 sc.nd (e_op o_catL (ev 1) (e_lcC (own := [("_law_part_here", 3)]) rfl sc.nd (ev 1) (blkOk_by (N := N__law_parts) (sc := defScope s__law_parts) (by decide +kernel)) (cg_name 3) (fun _ _ _ _ _ => pg_name (i := 3) sc.nd rfl (Or.inl rfl)) (fun _ _ _ _ _ => f_nil) (fun _ _ _ _ _ => (e_op o_catT (ev 3) (e_tup (a_cons (ev 2) a_nil)))))))))
      (b_one (s_ret (e_lc (own := [("_law_row", 4)]) rfl sc.nd (j_lst (e_callB (c_sortD hu) T.m_sorted boot_sorted (a_cons (e_lcC (own := [("_law_part_here", 3)]) rfl sc.nd (ev 1) (blkOk_by (N := N__law_parts) (sc := defScope s__law_parts) (by decide +kernel)) (cg_name 3) (fun _ _ _ _ _ => pg_name (i := 3) sc.nd rfl (Or.inl rfl)) (fun _ _ _ _ _ => f_nil) (fun _ _ _ _ _ => (e_tup (a_cons (e_callB c_len T.m_len boot_len (a_cons (ev 3) a_nil)) (a_cons (ev 3) a_nil))))) a_nil))) (blkOk_by (N := N__law_parts) (sc := defScope s__law_parts) (by decide +kernel)) (cg_name 4) (fun _ _ _ _ _ => pg_name (i := 4) sc.nd rfl (Or.inl rfl)) (fun _ _ _ _ _ => f_nil) (fun _ _ _ _ _ => (e_ix i_seq (ev 4) e_int)))))))
theorem ok_law (T : Tx K mg) {f : Addr} {fd : FuncData} (F : FunD K "law" "law" (defArgs s_law) (defBody s_law) (defScope s_law) [] [] f fd) : FnOk P w K mg base (L2.CX P w) 10 f fd ["_law_script"] (lift K sp_law) := by
  have h_needless : Has P w K mg base 9 "needless" ["chain"] sp_needless := ok_needless T
  have h_shortest_part : Has P w K mg base 9 "shortest_part" ["chain"] sp_shortest_part := ok_shortest_part T
  have h__law_bag : Has P w K mg base 1 "_law_bag" ["_law_script", "_law_k"] sp__law_bag := ok__law_bag T
  have h__law_unlike : Has P w K mg base 3 "_law_unlike" ["_law_first", "_law_second"] sp__law_unlike := ok__law_unlike T
  have h__law_padded : Has P w K mg base 6 "_law_padded" ["_law_bag_here"] sp__law_padded := ok__law_padded T
  have h__law_parts : Has P w K mg base 1 "_law_parts" ["_law_many"] sp__law_parts := ok__law_parts T
  have sc := sc_law
  refine fnok_mk (N := N_law) F sc law_len pure_law (fun cdv A outer s H E hr => ?_)
  have hu := hr.units
  have hu9 := room65 hr.un
  have tk : Takes (cxOf (L2.CX P w) P w K mg base N_law "law" (defScope s_law) f cdv A outer s H E) (fun cls d _ H => E cls d H) := takes_of rfl rfl rfl rfl
  exact (b_cons (s_for (passes_of rfl) rfl (j_range1 (e_op o_add (e_callB (c_min2 rfl) T.m_min boot_min (a_cons (e_callB c_len T.m_len boot_len (a_cons (ev 0) a_nil)) (a_cons e_int a_nil))) e_int) T.m_range) (g_name 1 sc.nd) (b_cons (s_set 2 sc.nd (e_call h__law_bag (hr.mono (by decide)) tk (a_cons (ev 0) (a_cons (ev 1) a_nil))))
      (b_one (s_for (passes_of rfl) rfl (j_range1 e_int T.m_range) (g_name 3 sc.nd) (b_cons (s_asg (e_tup (a_cons (e_call h__law_padded (hr.mono (by decide)) tk (a_cons (ev 2) a_nil)) (a_cons (e_lst a_nil) a_nil))) (g_tup rfl (gs_cons (g_name 4 sc.nd) (gs_cons (g_name 5 sc.nd) gs_nil))))
      (b_cons (s_for (passes_of rfl) rfl (j_lst (e_call h__law_parts (hr.mono (by decide)) tk (a_cons (e_callB c_len T.m_len boot_len (a_cons (ev 4) a_nil)) a_nil))) (g_name 6 sc.nd) (b_one (s_if (t_cmp o_isN (e_call h__law_unlike (hr.mono (by decide)) tk (a_cons (e_callTy c_tuple T.m_tuple boot_tuple (a_cons (e_lc (own := [("_law_index", 8)]) rfl sc.nd (j_tup (ev 6)) (blkOk_by (N := N_law) (sc := defScope s_law) (by decide +kernel)) (cg_name 8) (fun _ _ _ _ _ => pg_name (i := 8) sc.nd rfl (Or.inl rfl)) (fun _ _ _ _ _ => f_nil) (fun _ _ _ _ _ => (e_ix i_seq (ev 4) (ev 8)))) a_nil)) (a_cons (ev 4) a_nil))) e_non) (b_one (s_expr (e_mt PySem.F.slot_list_append PySem.F.type_list_append m_append (ev 5) (a_cons (ev 6) a_nil)))) b_nil)))
      (b_cons (s_if (t_cmp (o_neD hu) (e_call h_shortest_part (hr.mono (by decide)) tk (a_cons (ev 4) a_nil)) (e_ix i_seq (ev 5) e_int)) (b_one (s_ret e_bl)) b_nil)
      (b_cons (s_set 7 sc.nd (e_lst a_nil))
      (b_cons (s_for (passes_of rfl) rfl (j_range1 (e_callB c_len T.m_len boot_len (a_cons (ev 4) a_nil)) T.m_range) (g_name 8 sc.nd) (b_one (s_if (t_cmp (o_inD hu9) (e_callTy c_tuple T.m_tuple boot_tuple (a_cons (e_lc (own := [("_law_at", 10)]) rfl sc.nd (j_range1 (e_callB c_len T.m_len boot_len (a_cons (ev 4) a_nil)) T.m_range) (blkOk_by (N := N_law) (sc := defScope s_law) (by decide +kernel)) (cg_name 10) (fun _ _ _ _ _ => pg_name (i := 10) sc.nd rfl (Or.inl rfl)) (fun _ _ _ _ _ => (f_one (t_cmp o_ne (ev 10) (ev 8)))) (fun _ _ _ _ _ => (ev 10))) a_nil)) (ev 5)) (b_one (s_expr (e_mt PySem.F.slot_list_append PySem.F.type_list_append m_append (ev 7) (a_cons (ev 8) a_nil)))) b_nil)))
      (b_cons (s_set 9 sc.nd (e_call h_needless (hr.mono (by decide)) tk (a_cons (ev 4) a_nil)))
      (b_cons (s_if (t_cmp (o_neD hu) (ev 9) (ev 7)) (b_one (s_ret e_bl)) b_nil)
      (b_cons (s_expr (e_mt PySem.F.slot_list_append PySem.F.type_list_append m_append (ev 9) (a_cons e_non a_nil)))
      (b_one (s_if (t_cmp (o_neD hu) (e_call h_needless (hr.mono (by decide)) tk (a_cons (ev 4) a_nil)) (ev 7)) (b_one (s_ret e_bl)) b_nil))))))))))))))
      (b_cons (s_if ((w_or (t_cmp (o_neD hu) (e_call h_needless (hr.mono (by decide)) tk (a_cons (e_tup (a_cons (e_tup (a_cons e_non (a_cons e_non (a_cons e_int a_nil)))) (a_cons (e_tup (a_cons e_non (a_cons e_int (a_cons e_int a_nil)))) (a_cons (e_tup (a_cons e_non (a_cons e_int (a_cons e_int a_nil)))) a_nil)))) a_nil)) (e_lst (a_cons e_int (a_cons e_int a_nil)))) (w_or1 (t_cmp (o_neD hu) (e_call h_needless (hr.mono (by decide)) tk (a_cons (e_tup a_nil) a_nil)) (e_lst a_nil))))).t (b_one (s_ret e_bl)) b_nil)
      (b_one (s_ret (e_and (e_cmp (o_eqD hu) (e_call h_shortest_part (hr.mono (by decide)) tk (a_cons (e_tup (a_cons (e_tup (a_cons e_non (a_cons e_non (a_cons (e_un u_neg e_int) a_nil)))) (a_cons (e_tup (a_cons e_non (a_cons e_non (a_cons (e_un u_neg e_int) a_nil)))) a_nil))) a_nil)) (e_tup a_nil)) (e_one (e_cmp (o_eqD hu) (e_call h_shortest_part (hr.mono (by decide)) tk (a_cons (e_tup (a_cons (e_tup (a_cons e_int (a_cons e_non (a_cons e_int a_nil)))) a_nil)) a_nil)) (e_tup (a_cons e_int a_nil)))))))))
end
/-! ### the head -/
def loose : List PySem.Str := "ChainError" :: "InvalidChain" :: "BOUND" :: "STEP" :: "SLICES" :: "is_integer" :: "is_bound" :: "is_step" :: "is_slice" :: "is_chain" :: "require_chain" :: "moved" :: "ends" :: "applied" :: "shown_by" :: "cleaned" :: "clean" :: "threshold_of" :: "period_of" :: "common_multiple" :: "last_threshold" :: "both_periods" :: "bound_for" :: "agree_at" :: "first_difference" :: "are_equal" :: "without" :: "needless" :: "shortest_part" :: "_law_bag" :: "_law_take" :: "_law_of" :: "_law_bound" :: "_law_slice" :: "_law_chain" :: "_law_part" :: "_law_shown" :: "_law_weights" :: "_law_multiple" :: "_law_limit" :: "_law_unlike" :: "_law_padded" :: "_law_parts" :: []
abbrev R : PySem.W.OpenRow := PySem.W.OpenLaw.row PySem.Challenge.rw_slicechains_k10_whole_needless_slices
abbrev hk : PySem.W.Hook := He.hookD 4 fa fn
def ob (s : PySem.W.SharedT) : He.AlD := He.obsDG 4 fa fn (HandSHeadRun.getT s)
theorem ob_eq (s : PySem.W.SharedT) : ob s = hk.obs s.abs := He.obsDG_eq (HandSHeadRun.getT_eq s)
theorem run (w : World) : HandSHeadRun.RunEq R (PySem.W.view R.prog [50]) hk ob 4000 loose w := by
  intro os
  kernel_rfl
end Sc
open PySem PySem.W PySem.Calls PyProof.Rows
theorem PySem.Challenge.cw_slicechains_k10_whole_needless_slices_holds : PySem.Challenge.rw_slicechains_k10_whole_needless_slices.Holds := by
  w_on; o_law
  refine HandSHeadRun.head_any (r := OpenLaw.row PySem.Challenge.rw_slicechains_k10_whole_needless_slices) (q := view (OpenLaw.row PySem.Challenge.rw_slicechains_k10_whole_needless_slices).prog [50]) (H := Sc.hk) (ob := Sc.ob) (M := 4000) (loose := Sc.loose) (d := HandSHeadRun.topDef (OpenLaw.row PySem.Challenge.rw_slicechains_k10_whole_needless_slices).prog 50) (kwd := []) Sc.ob_eq
    (by kernel_rfl) (fun s => by kernel_rfl) Sc.run (by kernel_rfl) (by kernel_rfl) (by kernel_rfl) (by rfl) (by first | assumption | decide +kernel) (by decide +kernel) ⟨rfl, rfl, rfl, rfl, rfl, by decide +kernel⟩ ?hw ?hc
  case hw => w_witness2
  case hc =>
    refine Sc.end_walk (l := PySem.Challenge.rw_slicechains_k10_whole_needless_slices) (k := 10) rfl (by decide) ⟨rfl, by decide, by decide⟩ ?F
    intro w mg fa h Y G hmg0
    obtain ⟨K, KX, c⟩ := Y
    have hmg : mg ("law" : PySem.Str) = some (.ref fa) := by
      have e : (HandSHeadRun.topDef (OpenLaw.row PySem.Challenge.rw_slicechains_k10_whole_needless_slices).prog 50).name = ("law" : PySem.Str) := by kernel_rfl
      rw [← e]
      exact hmg0
    have T := Sc.env_of KX G c
    have T := T
    obtain ⟨fd, F⟩ := T.f_law
    have e2 := hmg.symm.trans T.g_law
    cases e2
    exact ⟨K, fd, KX, fun s v => (L2.FunD.bindsA (ps := ["_law_script"]) F fun _ _ _ _ _ _ us hl => match us, hl with | [_], _ => rfl) s [v] rfl, fun base _ _ => Sc.ok_law T F⟩

