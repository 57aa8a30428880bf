import PyProof.Rows.All
import Wide.All
import OpenK.AllK
import Wide.FinOn
import Lean
import HandS.ForMost
import HandS.Exc
import HandS.TryOnly
import HandS.ExcOwn
import HandS.ExcCtx
import HandS.WordsExc
import HandS.Defaults
import HandS.Flow
import HandS.Style
import HandS.IsInst
import HandS.Wide
import HandS.TupAny
import HandS.TupMul
import HandS.Head0
import HandS.Head1
import HandS.Head2
import HandS.HeadEnd
import HandS.HeadHook1
import HandS.HeadHook2
import HandS.HeadHook3
import HandS.HeadHook4
import HandS.Conv
import KE.GoesEnum
import HandS.Strs
import HandS.ExcIs
import HandS.Hot
import HandS.HotCalls
import HandS.Iter
import HandS.Comp
import HandS.Text
import HandS.OwnEq
import PySem.Challenge.RW_slicechains_k19_whole_a_view_step_by_ste
set_option Elab.async false
set_option linter.all false
set_option maxRecDepth 100000
set_option maxHeartbeats 0
/-! A layer over HandS: values as data (Dt), the immutable part of the heap hidden, mutable lists and instances in a map (Cells). -/
namespace Sc
open PySem PySem.Spec PyProof.Rows L2

inductive Dt where
  | non | bl (b : Bool) | int (i : Int) | str (x : Str) | tup (xs : List Dt) | lst (xs : List Dt) | ref (a : Addr)

mutual
def Rp (K : PySem.W.Frag) (I : Hp) : Dt → V → Prop
  | .non, v => v = .non
  | .bl b, v => v = .bl b
  | .int i, v => v = .int i
  | .str x, v => v = .str x
  | .ref a, v => v = .ref a
  | .tup ds, v => ∃ a xs, v = .ref a ∧ SqT K I a xs ∧ Rps K I ds xs
  | .lst ds, v => ∃ a xs, v = .ref a ∧ SqL K I a xs ∧ Rps K I ds xs
def Rps (K : PySem.W.Frag) (I : Hp) : List Dt → List V → Prop
  | [], xs => xs = []
  | d :: ds, xs => ∃ v vs, xs = v :: vs ∧ Rp K I d v ∧ Rps K I ds vs
end

theorem sqL_mono {K : PySem.W.Frag} {H H' : Hp} {a : Addr} {xs : List V} (e : Same H H') (h : SqL K H a xs) : SqL K H' a xs := by
  rcases h with (h | ⟨o, h⟩) | h
  · exact .inl (.inl (e _ _ h))
  · exact .inl (.inr ⟨o, e _ _ h⟩)
  · exact .inr h
theorem sqT_mono {K : PySem.W.Frag} {H H' : Hp} {a : Addr} {xs : List V} (e : Same H H') (h : SqT K H a xs) : SqT K H' a xs := by
  rcases h with (h | ⟨o, h⟩) | h
  · exact .inl (.inl (e _ _ h))
  · exact .inl (.inr ⟨o, e _ _ h⟩)
  · exact .inr h
mutual
theorem Rp.mono {K : PySem.W.Frag} {I I' : Hp} (e : Same I I') : ∀ {d : Dt} {v : V}, Rp K I d v → Rp K I' d v
  | .non, _, h => h
  | .bl _, _, h => h
  | .int _, _, h => h
  | .str _, _, h => h
  | .ref _, _, h => h
  | .tup ds, _, h => by
    obtain ⟨a, xs, e1, h1, h2⟩ := h
    exact ⟨a, xs, e1, sqT_mono e h1, Rps.mono e h2⟩
  | .lst ds, _, h => by
    obtain ⟨a, xs, e1, h1, h2⟩ := h
    exact ⟨a, xs, e1, sqL_mono e h1, Rps.mono e h2⟩
theorem Rps.mono {K : PySem.W.Frag} {I I' : Hp} (e : Same I I') : ∀ {ds : List Dt} {vs : List V}, Rps K I ds vs → Rps K I' ds vs
  | [], _, h => h
  | d :: ds, _, h => by
    obtain ⟨v, vs, e1, h1, h2⟩ := h
    exact ⟨v, vs, e1, Rp.mono e h1, Rps.mono e h2⟩
end
section
variable {K : PySem.W.Frag} {I : Hp}
theorem Rps.length : ∀ {ds : List Dt} {vs : List V}, Rps K I ds vs → vs.length = ds.length
  | [], _, h => by cases (show _ = _ from h); rfl
  | d :: ds, _, ⟨v, vs, e1, h1, h2⟩ => by subst e1; simp [Rps.length h2]
theorem Rps.get : ∀ {ds : List Dt} {vs : List V} {i : Nat} {d : Dt}, Rps K I ds vs → ds[i]? = some d → ∃ v, vs[i]? = some v ∧ Rp K I d v
  | [], _, i, d, h, e => by simp at e
  | d :: ds, _, 0, _, ⟨v, vs, e1, h1, h2⟩, e => by
    subst e1
    simp at e
    subst e
    exact ⟨v, rfl, h1⟩
  | d :: ds, _, i + 1, _, ⟨v, vs, e1, h1, h2⟩, e => by
    subst e1
    obtain ⟨u, q1, q2⟩ := Rps.get (i := i) h2 (by simpa using e)
    exact ⟨u, by simpa using q1, q2⟩
theorem Rps.get' : ∀ {ds : List Dt} {vs : List V} {i : Nat} {v : V}, Rps K I ds vs → vs[i]? = some v → ∃ d, ds[i]? = some d ∧ Rp K I d v
  | [], _, i, d, h, e => by cases (show _ = _ from h); simp at e
  | d :: ds, _, 0, _, ⟨v, vs, e1, h1, h2⟩, e => by
    subst e1
    simp at e
    subst e
    exact ⟨d, rfl, h1⟩
  | d :: ds, _, i + 1, _, ⟨v, vs, e1, h1, h2⟩, e => by
    subst e1
    obtain ⟨u, q1, q2⟩ := Rps.get' (i := i) h2 (by simpa using e)
    exact ⟨u, by simpa using q1, q2⟩
theorem Rps.app : ∀ {ds es : List Dt} {vs us : List V}, Rps K I ds vs → Rps K I es us → Rps K I (ds ++ es) (vs ++ us)
  | [], _, _, _, h, h' => by cases (show _ = _ from h); exact h'
  | d :: ds, es, _, us, ⟨v, vs, e1, h1, h2⟩, h' => by
    subst e1
    exact ⟨v, vs ++ us, rfl, h1, Rps.app h2 h'⟩
theorem Rps.take : ∀ {ds : List Dt} {vs : List V} (n : Nat), Rps K I ds vs → Rps K I (ds.take n) (vs.take n)
  | [], _, n, h => by cases (show _ = _ from h); simp [Rps]
  | d :: ds, _, 0, ⟨v, vs, e1, h1, h2⟩ => by subst e1; simp [Rps]
  | d :: ds, _, n + 1, ⟨v, vs, e1, h1, h2⟩ => by
    subst e1
    exact ⟨v, vs.take n, rfl, h1, Rps.take n h2⟩
theorem Rps.drop : ∀ {ds : List Dt} {vs : List V} (n : Nat), Rps K I ds vs → Rps K I (ds.drop n) (vs.drop n)
  | [], _, n, h => by cases (show _ = _ from h); simp [Rps]
  | d :: ds, _, 0, h => h
  | d :: ds, _, n + 1, ⟨v, vs, e1, h1, h2⟩ => by
    subst e1
    exact Rps.drop n h2
theorem Rps.set : ∀ {ds : List Dt} {vs : List V} {d : Dt} {v : V} (n : Nat), Rps K I ds vs → Rp K I d v → Rps K I (ds.set n d) (vs.set n v)
  | [], _, _, _, n, h, _ => by cases (show _ = _ from h); simp [Rps]
  | d :: ds, _, _, u, 0, ⟨v, vs, e1, h1, h2⟩, h' => by
    subst e1
    exact ⟨u, vs, rfl, h', h2⟩
  | d :: ds, _, _, u, n + 1, ⟨v, vs, e1, h1, h2⟩, h' => by
    subst e1
    exact ⟨v, vs.set n u, rfl, h1, Rps.set n h2 h'⟩
theorem Rps.one {d : Dt} {v : V} (h : Rp K I d v) : Rps K I [d] [v] := ⟨v, [], rfl, h, rfl⟩
theorem Rps.rev : ∀ {ds : List Dt} {vs : List V}, Rps K I ds vs → Rps K I ds.reverse vs.reverse
  | [], _, h => by cases (show _ = _ from h); exact rfl
  | d :: ds, _, ⟨v, vs, e1, h1, h2⟩ => by
    subst e1
    rw [List.reverse_cons, List.reverse_cons]
    exact Rps.app (Rps.rev h2) (Rps.one h1)
theorem Rps.ints : ∀ {ns : List Int} {vs : List V}, Rps K I (ns.map Dt.int) vs → vs = ns.map V.int
  | [], _, h => h
  | n :: ns, _, ⟨v, vs, e1, h1, h2⟩ => by
    subst e1
    cases (show v = _ from h1)
    rw [Rps.ints h2]
    rfl
theorem Rps.of_ints : ∀ (ns : List Int), Rps K I (ns.map Dt.int) (ns.map V.int)
  | [] => rfl
  | n :: ns => ⟨.int n, ns.map V.int, rfl, rfl, Rps.of_ints ns⟩
theorem Rps.bls : ∀ {ns : List Bool} {vs : List V}, Rps K I (ns.map Dt.bl) vs → vs = ns.map V.bl
  | [], _, h => h
  | n :: ns, _, ⟨v, vs, e1, h1, h2⟩ => by
    subst e1
    cases (show v = _ from h1)
    rw [Rps.bls h2]
    rfl
theorem Rps.strs : ∀ {ns : List Str} {vs : List V}, Rps K I (ns.map Dt.str) vs → vs = ns.map V.str
  | [], _, h => h
  | n :: ns, _, ⟨v, vs, e1, h1, h2⟩ => by
    subst e1
    cases (show v = _ from h1)
    rw [Rps.strs h2]
    rfl
end

/-! ### mutable objects -/
inductive Cell where
  | lst (ds : List Dt)
  | ins (C : Addr) (fs : List (Str × Dt))
abbrev Cells := Addr → Option Cell
def Cells.put (S : Cells) (a : Addr) (c : Cell) : Cells := fun b => if b = a then some c else S b
def Cells.del (S : Cells) (a : Addr) : Cells := fun b => if b = a then none else S b
theorem Cells.put_same {S : Cells} {a : Addr} {c : Cell} : S.put a c a = some c := if_pos rfl
theorem Cells.put_ne {S : Cells} {a b : Addr} {c : Cell} (h : b ≠ a) : S.put a c b = S b := if_neg h
theorem Cells.put_put {S : Cells} {a : Addr} {c d : Cell} : (S.put a c).put a d = S.put a d := by
  funext b
  unfold Cells.put
  by_cases h : b = a
  · rw [if_pos h, if_pos h]
  · rw [if_neg h, if_neg h, if_neg h]
theorem Cells.ne_new {S : Cells} {a b : Addr} {c : Cell} (h : S a = some c) (h' : S b = none) : a ≠ b := fun e => by
  rw [e, h'] at h
  cases h
/-- the immutable part -/
def wo (S : Cells) (H : Hp) : Hp := fun a => if (S a).isSome = true then none else H a
theorem wo_none {S : Cells} {H : Hp} {a : Addr} (h : S a = none) : wo S H a = H a := by
  unfold wo
  rw [h]
  exact if_neg (by decide)
theorem wo_some {S : Cells} {H : Hp} {a : Addr} {c : Cell} (h : S a = some c) : wo S H a = none := by
  unfold wo
  rw [h]
  exact if_pos rfl
theorem wo_le {S : Cells} {H : Hp} : Same (wo S H) H := fun a o h => by
  cases e : S a with
  | none => rw [wo_none e] at h; exact h
  | some c => rw [wo_some e] at h; cases h
def Rfs (K : PySem.W.Frag) (I : Hp) : List (Str × Dt) → List (Str × V) → Prop
  | [], vs => vs = []
  | (x, d) :: fs, vs => ∃ v r, vs = (x, v) :: r ∧ Rp K I d v ∧ Rfs K I fs r
theorem Rfs.mono {K : PySem.W.Frag} {I I' : Hp} (e : Same I I') : ∀ {fs : List (Str × Dt)} {vs : List (Str × V)}, Rfs K I fs vs → Rfs K I' fs vs
  | [], _, h => h
  | (x, d) :: fs, _, ⟨v, r, e1, h1, h2⟩ => ⟨v, r, e1, h1.mono e, Rfs.mono e h2⟩
def CellOk (K : PySem.W.Frag) (I H : Hp) (a : Addr) : Cell → Prop
  | .lst ds => ∃ xs, H a = some (.lst xs) ∧ Rps K I ds xs
  | .ins C fs => ∃ dx vs, H a = some (.ins C dx vs) ∧ Rfs K I fs vs
def Wd (K : PySem.W.Frag) (S : Cells) (H : Hp) : Prop := ∀ a c, S a = some c → CellOk K (wo S H) H a c

section
variable {K : PySem.W.Frag} {S S' : Cells} {H H' : Hp} {p a : Addr} {o : HO} {ds es : List Dt} {xs : List V}
theorem CellOk.some {c : Cell} {I : Hp} (h : CellOk K I H a c) : ∃ o, H a = some o := by
  cases c with
  | lst ds => obtain ⟨xs, h1, _⟩ := h; exact ⟨_, h1⟩
  | ins C fs => obtain ⟨dx, vs, h1, _⟩ := h; exact ⟨_, h1⟩
theorem CellOk.mono {c : Cell} {I I' : Hp} (e : Same I I') (e2 : H' a = H a) (h : CellOk K I H a c) : CellOk K I' H' a c := by
  cases c with
  | lst ds => obtain ⟨xs, h1, h2⟩ := h; exact ⟨xs, e2.trans h1, h2.mono e⟩
  | ins C fs => obtain ⟨dx, vs, h1, h2⟩ := h; exact ⟨dx, vs, e2.trans h1, h2.mono e⟩
theorem Wd.free (w : Wd K S H) (h : H p = none) : S p = none := by
  cases e : S p with
  | none => rfl
  | some c =>
    obtain ⟨o, q⟩ := (w p c e).some
    rw [h] at q
    cases q
/-- a new immutable object -/
theorem new_same (w : Wd K S H) (h : H p = none) : Same (wo S H) (wo S (upd H p o)) := fun a u e => by
  have hS := w.free h
  by_cases ha : a = p
  · subst ha
    rw [wo_none hS, h] at e
    cases e
  · cases q : S a with
    | none => rw [wo_none q] at e ⊢; rw [upd_ne ha]; exact e
    | some c => rw [wo_some q] at e; cases e
theorem new_wd (w : Wd K S H) (h : H p = none) : Wd K S (upd H p o) := fun a c e => by
  have ha : a ≠ p := fun q => by
    rw [q, w.free h] at e
    cases e
  exact (w a c e).mono (new_same w h) (upd_ne ha)
theorem new_at (w : Wd K S H) (h : H p = none) : wo S (upd H p o) p = some o := by
  rw [wo_none (w.free h)]
  exact upd_same
/-- a cell changes, or a new one comes: the immutable part is as it was -/
theorem put_wo (c : Cell) (h : S p ≠ none ∨ H p = none) : wo (S.put p c) (upd H p o) = wo S H := by
  funext a
  by_cases ha : a = p
  · subst ha
    rw [wo_some (Cells.put_same)]
    rcases h with h | h
    · cases e : S a with
      | none => exact absurd e h
      | some c => rw [wo_some e]
    · cases e : S a with
      | none => rw [wo_none e, h]
      | some c => rw [wo_some e]
  · cases e : S a with
    | none => rw [wo_none e, wo_none (by rw [Cells.put_ne ha]; exact e), upd_ne ha]
    | some c => rw [wo_some e, wo_some (by rw [Cells.put_ne ha]; exact e)]
theorem put_wd (w : Wd K S H) {c : Cell} (h : S p ≠ none ∨ H p = none) (hc : CellOk K (wo S H) (upd H p o) p c) : Wd K (S.put p c) (upd H p o) := fun a c' e => by
  rw [put_wo c h]
  by_cases ha : a = p
  · subst ha
    rw [Cells.put_same] at e
    cases e
    exact hc
  · rw [Cells.put_ne ha] at e
    exact (w a c' e).mono (Same.refl _) (upd_ne ha)
/-- a list is changed no more -/
theorem froz_same : Same (wo S H) (wo (S.del p) H) := fun a o e => by
  have ha : S a = none := by
    cases q : S a with
    | none => rfl
    | some c => rw [wo_some q] at e; cases e
  rw [wo_none ha] at e
  have hd : S.del p a = none := by
    unfold Cells.del
    by_cases q : a = p
    · rw [if_pos q]
    · rw [if_neg q]; exact ha
  rw [wo_none hd]
  exact e
theorem froz_wd (w : Wd K S H) : Wd K (S.del p) H := fun a c e => by
  have ha : a ≠ p := fun q => by
    unfold Cells.del at e
    rw [if_pos q] at e
    cases e
  have e' : S a = some c := by
    unfold Cells.del at e
    rw [if_neg ha] at e
    exact e
  exact (w a c e').mono froz_same rfl
theorem froz_at (w : Wd K S H) (h : S p = some (.lst ds)) : Rp K (wo (S.del p) H) (.lst ds) (.ref p) := by
  obtain ⟨xs, h1, h2⟩ := w p _ h
  refine ⟨p, xs, rfl, SqL.of ?_, h2.mono froz_same⟩
  rw [wo_none (if_pos rfl)]
  exact h1
end
end Sc

namespace Sc
open PySem PySem.Spec PyProof.Rows L2
/-! ### judgements over data -/
abbrev Ds := List (Option Dt)
def Rs (K : PySem.W.Frag) (I : Hp) (ds : Ds) (σ : L2.St) : Prop := ds.length = σ.length ∧ ∀ (i : Nat) (d : Dt), ds[i]? = some (some d) → ∃ v, σ[i]? = some (some v) ∧ Rp K I d v
abbrev XK2 := Addr → Ds → Cells → Prop
abbrev QE := Dt → Cells → Prop
abbrev TE2 := XK2 → Ds → Cells → QE → Prop
abbrev TT2 := XK2 → Ds → Cells → (Bool → Cells → Prop) → Prop
abbrev TA2 := XK2 → Ds → Cells → (List Dt → Cells → Prop) → Prop
structure Ends2 where
  nx : Ds → Cells → Prop
  rt : QE
  bk : Ds → Cells → Prop := fun _ _ => False
  ct : Ds → Cells → Prop := fun _ _ => False
abbrev TS2 := XK2 → Ends2 → Ds → Cells → Prop
structure Ends2.Le (D D' : Ends2) : Prop where
  nx : ∀ ds S, D.nx ds S → D'.nx ds S
  rt : ∀ d S, D.rt d S → D'.rt d S
  bk : ∀ ds S, D.bk ds S → D'.bk ds S
  ct : ∀ ds S, D.ct ds S → D'.ct ds S
theorem Ends2.Le.refl (D : Ends2) : D.Le D := ⟨fun _ _ h => h, fun _ _ h => h, fun _ _ h => h, fun _ _ h => h⟩

/-- from one world to the next -/
structure Step (K : PySem.W.Frag) (S : Cells) (H : Hp) (S' : Cells) (H' : Hp) : Prop where
  same : Same (wo S H) (wo S' H')
  wd : Wd K S' H'
theorem Step.trans {K : PySem.W.Frag} {S S1 S2 : Cells} {H H1 H2 : Hp} (a : Step K S H S1 H1) (b : Step K S1 H1 S2 H2) : Step K S H S2 H2 := ⟨a.same.trans b.same, b.wd⟩
def up (K : PySem.W.Frag) (S : Cells) (H : Hp) (Q : VK) : QE := fun d S' => ∀ v H', Step K S H S' H' → Rp K (wo S' H') d v → Q v H'
def upB (K : PySem.W.Frag) (S : Cells) (H : Hp) (Q : Bool → Hp → Prop) : Bool → Cells → Prop := fun b S' => ∀ H', Step K S H S' H' → Q b H'
def upA (K : PySem.W.Frag) (S : Cells) (H : Hp) (Q : List V → Hp → Prop) : List Dt → Cells → Prop := fun d S' => ∀ v H', Step K S H S' H' → Rps K (wo S' H') d v → Q v H'
def upS (K : PySem.W.Frag) (S : Cells) (H : Hp) (Q : L2.St → Hp → Prop) : Ds → Cells → Prop := fun ds S' => ∀ σ' H', Step K S H S' H' → Rs K (wo S' H') ds σ' → Q σ' H'
def upD (K : PySem.W.Frag) (S : Cells) (H : Hp) (D : Ends) : Ends2 := ⟨upS K S H D.nx, up K S H D.rt, upS K S H D.bk, upS K S H D.ct⟩
def upX (K : PySem.W.Frag) (S : Cells) (H : Hp) (W : WX) : XK2 := fun C ds S' => ∀ σ' H', Step K S H S' H' → Rs K (wo S' H') ds σ' → W (.ref C) none σ' H'
/-- where one stands -/
structure Here (K : PySem.W.Frag) (W : WX) (x : XK2) (ds : Ds) (S : Cells) (σ : L2.St) (H : Hp) : Prop where
  rs : Rs K (wo S H) ds σ
  wd : Wd K S H
  xe : ∀ C ds' S', x C ds' S' → upX K S H W C ds' S'
theorem Rs.mono {K : PySem.W.Frag} {I I' : Hp} {ds : Ds} {σ : L2.St} (h : Rs K I ds σ) (e : Same I I') : Rs K I' ds σ := ⟨h.1, fun i d q => by
  obtain ⟨v, h1, h2⟩ := h.2 i d q
  exact ⟨v, h1, h2.mono e⟩⟩
section
variable {K : PySem.W.Frag} {W : WX} {x : XK2} {ds : Ds} {S S' S1 : Cells} {σ : L2.St} {H H' H1 : Hp}
theorem Here.step (h : Here K W x ds S σ H) (s : Step K S H S' H') : Here K W x ds S' σ H' := ⟨h.rs.mono s.same, s.wd, fun C ds' S1 q σ' H1 s1 r => h.xe C ds' S1 q σ' H1 (s.trans s1) r⟩
theorem Here.refl (h : Here K W x ds S σ H) : Step K S H S H := ⟨Same.refl _, h.wd⟩
theorem Rs.set {I : Hp} {i : Nat} {d : Dt} {v : V} (h : Rs K I ds σ) (r : Rp K I d v) : Rs K I (ds.set i (some d)) (σ.set i (some v)) := by
  refine ⟨by rw [List.length_set, List.length_set]; exact h.1, fun j e q => ?_⟩
  by_cases hj : i = j
  · subst hj
    by_cases hl : i < ds.length
    · rw [List.getElem?_set_self hl] at q
      cases q
      exact ⟨v, List.getElem?_set_self (by rw [← h.1]; exact hl), r⟩
    · rw [List.getElem?_eq_none (by rw [List.length_set]; omega)] at q
      cases q
  · rw [List.getElem?_set_ne hj] at q
    obtain ⟨u, h1, h2⟩ := h.2 j e q
    exact ⟨u, by rw [List.getElem?_set_ne hj]; exact h1, h2⟩
theorem Here.set {i : Nat} {d : Dt} {v : V} (h : Here K W x ds S σ H) (r : Rp K (wo S H) d v) : Here K W x (ds.set i (some d)) S (σ.set i (some v)) H := ⟨h.rs.set r, h.wd, h.xe⟩
theorem up.step {Q : VK} {d : Dt} {S2 : Cells} (s : Step K S H S1 H1) (q : up K S H Q d S2) : up K S1 H1 Q d S2 := fun v H' s' r => q v H' (s.trans s') r
theorem upB.step {Q : Bool → Hp → Prop} {d : Bool} {S2 : Cells} (s : Step K S H S1 H1) (q : upB K S H Q d S2) : upB K S1 H1 Q d S2 := fun H' s' => q H' (s.trans s')
theorem upA.step {Q : List V → Hp → Prop} {d : List Dt} {S2 : Cells} (s : Step K S H S1 H1) (q : upA K S H Q d S2) : upA K S1 H1 Q d S2 := fun v H' s' r => q v H' (s.trans s') r
theorem upS.step {Q : L2.St → Hp → Prop} {d : Ds} {S2 : Cells} (s : Step K S H S1 H1) (q : upS K S H Q d S2) : upS K S1 H1 Q d S2 := fun v H' s' r => q v H' (s.trans s') r
theorem upD.step {D : Ends} (s : Step K S H S1 H1) : (upD K S H D).Le (upD K S1 H1 D) := ⟨fun _ _ q => q.step s, fun _ _ q => q.step s, fun _ _ q => q.step s, fun _ _ q => q.step s⟩
end

structure E2 (X : Cx) (W : WX) (e : Expr) (T : TE2) : Prop where
  mono : ∀ x ds S Q Q', (∀ d S', Q d S' → Q' d S') → T x ds S Q → T x ds S Q'
  run : ∃ t, PE X e t ∧ ∀ x ds S σ H Q, Here X.K W x ds S σ H → T x ds S (up X.K S H Q) → t σ H Q
structure T2 (X : Cx) (W : WX) (e : Expr) (T : TT2) : Prop where
  mono : ∀ x ds S Q Q', (∀ d S', Q d S' → Q' d S') → T x ds S Q → T x ds S Q'
  run : ∃ t, PT X e t ∧ ∀ x ds S σ H Q, Here X.K W x ds S σ H → T x ds S (upB X.K S H Q) → t σ H Q
structure W2 (X : Cx) (W : WX) (e : Expr) (T : TT2) : Prop where
  mono : ∀ x ds S Q Q', (∀ d S', Q d S' → Q' d S') → T x ds S Q → T x ds S Q'
  run : ∃ t, PW X e t ∧ ∀ x ds S σ H Q, Here X.K W x ds S σ H → T x ds S (upB X.K S H Q) → t σ H Q
structure A2 (X : Cx) (W : WX) (es : List Expr) (T : TA2) : Prop where
  mono : ∀ x ds S Q Q', (∀ d S', Q d S' → Q' d S') → T x ds S Q → T x ds S Q'
  run : ∃ t, PA X es t ∧ ∀ x ds S σ H Q, Here X.K W x ds S σ H → T x ds S (upA X.K S H Q) → t σ H Q
structure S2 (X : Cx) (W : WX) (st : Stmt) (T : TS2) : Prop where
  mono : ∀ x ds S D D', Ends2.Le D D' → T x D ds S → T x D' ds S
  run : ∃ t, PS X st t ∧ ∀ x ds S σ H D, Here X.K W x ds S σ H → T x (upD X.K S H D) ds S → t D σ H
structure B2 (X : Cx) (W : WX) (st : List Stmt) (T : TS2) : Prop where
  mono : ∀ x ds S D D', Ends2.Le D D' → T x D ds S → T x D' ds S
  run : ∃ t, PSs X st t ∧ ∀ x ds S σ H D, Here X.K W x ds S σ H → T x (upD X.K S H D) ds S → t D σ H
theorem W2.t {X : Cx} {W : WX} {e : Expr} {T : TT2} (h : W2 X W e T) : T2 X W e T := ⟨h.mono, by
  obtain ⟨t, h1, h2⟩ := h.run
  exact ⟨t, h1.pt, h2⟩⟩

section
variable {X : Cx} {W : WX} {a b c e : Expr} {es : List Expr} {Ta Tb Tc Te : TE2} {Tt Tu : TT2} {TA : TA2} {pos : Pos}
/-! ### names, constants -/
def dVar (i : Nat) : TE2 := fun _ ds S Q => ∃ d, ds[i]? = some (some d) ∧ Q d S
def dC (d : Dt) : TE2 := fun _ _ S Q => Q d S
theorem ev (i : Nat) {x : Str} {pos : Pos} (hN : X.N[i]? = some x := by rfl) (hv : Vis X.env.scope x := by first | exact Or.inl rfl | exact Or.inr (Or.inl rfl) | exact Or.inr (Or.inr rfl)) (hd : (x == ("__debug__" : Str)) = false := by decide)
    (hcd : (x == ("__classdict__" : Str)) = false := by decide) : E2 X W (.Name x pos) (dVar i) := ⟨fun _ _ _ _ _ h ⟨d, e, q⟩ => ⟨d, e, h _ _ q⟩, _, pe_var hN hv hd hcd, fun x ds S σ H Q h ⟨d, e, q⟩ => by
  obtain ⟨v, h1, h2⟩ := h.rs.2 i d e
  exact ⟨v, h1, q v H h.refl h2⟩⟩
theorem e_int {i j pos} : E2 X W (.Constant (.int i) j pos) (dC (.int i)) := ⟨fun _ _ _ _ _ h q => h _ _ q, _, pe_int, fun x ds S σ H Q h q => q _ H h.refl rfl⟩
theorem e_bl {b j pos} : E2 X W (.Constant (.bool b) j pos) (dC (.bl b)) := ⟨fun _ _ _ _ _ h q => h _ _ q, _, pe_bl, fun x ds S σ H Q h q => q _ H h.refl rfl⟩
theorem e_non {j pos} : E2 X W (.Constant .none j pos) (dC .non) := ⟨fun _ _ _ _ _ h q => h _ _ q, _, pe_non, fun x ds S σ H Q h q => q _ H h.refl rfl⟩
theorem e_str {z j pos} : E2 X W (.Constant (.str z) j pos) (dC (.str z)) := ⟨fun _ _ _ _ _ h q => h _ _ q, _, pe_str, fun x ds S σ H Q h q => q _ H h.refl rfl⟩
theorem e_globI {x : Str} {i : Int} {pos : Pos} (hm : ∃ t, X.mg x = some (.int i t)) (hg : Gl X x := by rfl) (hd : (x == ("__debug__" : Str)) = false := by decide) : E2 X W (.Name x pos) (dC (.int i)) := ⟨fun _ _ _ _ _ h q => h _ _ q, by
  obtain ⟨t, hm⟩ := hm
  exact ⟨_, pe_glob (v := .int i) hg hm ⟨t, rfl⟩ hd, fun x ds S σ H Q h q => q _ H h.refl rfl⟩⟩
/-- a def or class of the module as a value -/
theorem e_globR {x : Str} {f : Addr} {pos : Pos} (hm : X.mg x = some (.ref f)) (hg : Gl X x := by rfl) (hd : (x == ("__debug__" : Str)) = false := by decide) : E2 X W (.Name x pos) (dC (.ref f)) := ⟨fun _ _ _ _ _ h q => h _ _ q,
  _, pe_glob (v := .ref f) hg hm rfl hd, fun x ds S σ H Q h q => q _ H h.refl rfl⟩

/-! ### operations on values -/
abbrev QO := Dt → Dt → Cells → QE → Prop
/-- a two-place operation -/
structure O2 (X : Cx) (f : Value → Value → Sem Value) (q : QO) : Prop where
  mono : ∀ d e S Q Q', (∀ d S', Q d S' → Q' d S') → q d e S Q → q d e S Q'
  run : ∃ r, OpR X f r ∧ ∀ d e v u S H Q, Wd X.K S H → Rp X.K (wo S H) d v → Rp X.K (wo S H) e u → q d e S (up X.K S H Q) → r v u H Q
def dOp (q : QO) (Ta Tb : TE2) : TE2 := fun x ds S Q => Ta x ds S fun d S1 => Tb x ds S1 fun e S2 => q d e S2 Q
theorem dOp.mono {q : QO} (hq : ∀ d e S Q Q', (∀ d S', Q d S' → Q' d S') → q d e S Q → q d e S Q') (ha : E2 X W a Ta) (hb : E2 X W b Tb) : ∀ x ds S Q Q', (∀ d S', Q d S' → Q' d S') → dOp q Ta Tb x ds S Q → dOp q Ta Tb x ds S Q' :=
  fun x ds S Q Q' h p => ha.mono x ds S _ _ (fun d S1 p1 => hb.mono x ds S1 _ _ (fun e S2 p2 => hq d e S2 Q Q' h p2) p1) p
theorem dOp.run {q : QO} {r : R2} {ta tb : TE} (hq : ∀ d e v u S H Q, Wd X.K S H → Rp X.K (wo S H) d v → Rp X.K (wo S H) e u → q d e S (up X.K S H Q) → r v u H Q) (qm : ∀ d e S Q Q', (∀ d S', Q d S' → Q' d S') → q d e S Q → q d e S Q')
    (ma : ∀ x ds S Q Q', (∀ d S', Q d S' → Q' d S') → Ta x ds S Q → Ta x ds S Q') (mb : ∀ x ds S Q Q', (∀ d S', Q d S' → Q' d S') → Tb x ds S Q → Tb x ds S Q')
    (ha : ∀ x ds S σ H Q, Here X.K W x ds S σ H → Ta x ds S (up X.K S H Q) → ta σ H Q) (hb : ∀ x ds S σ H Q, Here X.K W x ds S σ H → Tb x ds S (up X.K S H Q) → tb σ H Q) :
    ∀ x ds S σ H Q, Here X.K W x ds S σ H → dOp q Ta Tb x ds S (up X.K S H Q) → tOp r ta tb σ H Q := fun x ds S σ H Q h p => by
  refine ha x ds S σ H _ h (ma x ds S _ _ (fun d S1 p1 v H1 s1 r1 => ?_) p)
  refine hb x ds S1 σ H1 _ (h.step s1) (mb x ds S1 _ _ (fun e S2 p2 u H2 s2 r2 => ?_) p1)
  exact hq d e v u S2 H2 Q s2.wd (r1.mono s2.same) r2 (qm d e S2 _ _ (fun z S3 q3 => q3.step (s1.trans s2)) p2)
theorem e_op {op : Operator} {q : QO} (ho : O2 X (binaryOp op) q) (ha : E2 X W a Ta) (hb : E2 X W b Tb) : E2 X W (.BinOp a op b pos) (dOp q Ta Tb) := ⟨dOp.mono ho.mono ha hb, by
  obtain ⟨ta, pa, ra⟩ := ha.run
  obtain ⟨tb, pb, rb⟩ := hb.run
  obtain ⟨r, po, rr⟩ := ho.run
  exact ⟨_, pe_op po pa pb, dOp.run rr ho.mono ha.mono hb.mono ra rb⟩⟩
theorem e_cmp {op : CmpOp} {q : QO} (ho : O2 X (compareOp op) q) (ha : E2 X W a Ta) (hb : E2 X W b Tb) (hm : behindInMarks op b = false := by first | exact nomark _ | rfl | with_unfolding_all rfl) : E2 X W (.Compare a [op] [b] pos) (dOp q Ta Tb) := ⟨dOp.mono ho.mono ha hb, by
  obtain ⟨ta, pa, ra⟩ := ha.run
  obtain ⟨tb, pb, rb⟩ := hb.run
  obtain ⟨r, po, rr⟩ := ho.run
  exact ⟨_, pe_cmpR po pa pb hm, dOp.run rr ho.mono ha.mono hb.mono ra rb⟩⟩
/-- an expression's value as a test -/
def dTest (T : TE2) : TT2 := fun x ds S Q => T x ds S fun d S1 => ∃ k, d = .bl k ∧ Q k S1
theorem dTest.mono {T : TE2} (h : ∀ x ds S Q Q', (∀ d S', Q d S' → Q' d S') → T x ds S Q → T x ds S Q') : ∀ x ds S Q Q', (∀ d S', Q d S' → Q' d S') → dTest T x ds S Q → dTest T x ds S Q' :=
  fun x ds S Q Q' hq p => h x ds S _ _ (fun d S1 ⟨k, e, q⟩ => ⟨k, e, hq _ _ q⟩) p
theorem dTest.run {T : TE2} {t : TE} (hm : ∀ x ds S Q Q', (∀ d S', Q d S' → Q' d S') → T x ds S Q → T x ds S Q') (h : ∀ x ds S σ H Q, Here X.K W x ds S σ H → T x ds S (up X.K S H Q) → t σ H Q) :
    ∀ x ds S σ H Q, Here X.K W x ds S σ H → dTest T x ds S (upB X.K S H Q) → tTest t σ H Q := fun x ds S σ H Q hh p =>
  h x ds S σ H _ hh (hm x ds S _ _ (fun d S1 ⟨k, e, q⟩ v H1 s r => by
    subst e
    exact ⟨k, r, q H1 s⟩) p)
theorem t_cmp {op : CmpOp} {q : QO} (ho : O2 X (compareOp op) q) (ha : E2 X W a Ta) (hb : E2 X W b Tb) (hm : behindInMarks op b = false := by first | exact nomark _ | rfl | with_unfolding_all rfl) : T2 X W (.Compare a [op] [b] pos) (dTest (dOp q Ta Tb)) := ⟨dTest.mono (dOp.mono ho.mono ha hb), by
  obtain ⟨ta, pa, ra⟩ := ha.run
  obtain ⟨tb, pb, rb⟩ := hb.run
  obtain ⟨r, po, rr⟩ := ho.run
  exact ⟨_, pt_cmpR po pa pb hm, dTest.run (dOp.mono ho.mono ha hb) (dOp.run rr ho.mono ha.mono hb.mono ra rb)⟩⟩
theorem t_val (he : E2 X W e Te) (hs : ∀ whole, isTrue e X.env whole = (do let v ← whole; standAt e.pos; holding [v] (truthy v)) := by intro _; rfl) : T2 X W e (dTest Te) := ⟨dTest.mono he.mono, by
  obtain ⟨t, p, r⟩ := he.run
  exact ⟨_, pt_val p hs, dTest.run he.mono r⟩⟩
/-! a chain of comparisons -/
def dChain (q q' : QO) (Ta Tb Tc : TE2) : TE2 := fun x ds S Q => Ta x ds S fun d S1 => Tb x ds S1 fun e S2 => q d e S2 fun z S3 => ∃ k, z = .bl k ∧ if k = true then Tc x ds S3 fun f S4 => q' e f S4 Q else Q (.bl false) S3
theorem ite_mono {c : Prop} [Decidable c] {A B A' B' : Prop} (h : if c then A else B) (ha : A → A') (hb : B → B') : if c then A' else B' := by
  by_cases q : c
  · rw [if_pos q] at h ⊢
    exact ha h
  · rw [if_neg q] at h ⊢
    exact hb h
theorem e_chain {op op' : CmpOp} {q q' : QO} (ho : O2 X (compareOp op) q) (ho' : O2 X (compareOp op') q') (ha : E2 X W a Ta) (hb : E2 X W b Tb) (hc : E2 X W c Tc)
    (hm : lastMarks [op, op'] [b, c] = false := by with_unfolding_all rfl) : E2 X W (.Compare a [op, op'] [b, c] pos) (dChain q q' Ta Tb Tc) := by
  have mono : ∀ x ds S Q Q', (∀ d S', Q d S' → Q' d S') → dChain q q' Ta Tb Tc x ds S Q → dChain q q' Ta Tb Tc x ds S Q' := fun x ds S Q Q' h p =>
    ha.mono x ds S _ _ (fun d S1 p1 => hb.mono x ds S1 _ _ (fun e S2 p2 => ho.mono d e S2 _ _ (fun z S3 ⟨k, e1, p3⟩ => ⟨k, e1, ite_mono p3 (fun p3 => hc.mono x ds S3 _ _ (fun f S4 p4 => ho'.mono e f S4 Q Q' h p4) p3) (fun p3 => h _ _ p3)⟩) p2) p1) p
  refine ⟨mono, ?_⟩
  obtain ⟨ta, pa, ra⟩ := ha.run
  obtain ⟨tb, pb, rb⟩ := hb.run
  obtain ⟨tc, pc, rc⟩ := hc.run
  obtain ⟨r, po, rr⟩ := ho.run
  obtain ⟨r', po', rr'⟩ := ho'.run
  refine ⟨_, pe_chain po po' pa pb pc hm, fun x ds S σ H Q h p => ?_⟩
  refine ra x ds S σ H _ h (ha.mono x ds S _ _ (fun d S1 p1 v H1 s1 r1 => ?_) p)
  refine rb x ds S1 σ H1 _ (h.step s1) (hb.mono x ds S1 _ _ (fun e S2 p2 u H2 s2 r2 => ?_) p1)
  refine rr d e v u S2 H2 _ s2.wd (r1.mono s2.same) r2 (ho.mono d e S2 _ _ (fun z S3 ⟨k, e1, p3⟩ z' H3 s3 r3 => ?_) p2)
  subst e1
  refine ⟨k, r3, ?_⟩
  have s123 := s1.trans (s2.trans s3)
  refine ite_mono p3 (fun p3 => ?_) (fun p3 => p3 _ _ s123 rfl)
  refine rc x ds S3 σ H3 _ (h.step s123) (hc.mono x ds S3 _ _ (fun f S4 p4 w' H4 s4 r4 => ?_) p3)
  exact rr' e f u w' S4 H4 Q s4.wd (r2.mono (s3.trans s4).same) r4 (ho'.mono e f S4 _ _ (fun z S5 q5 => q5.step (s123.trans s4)) p4)
theorem t_chain {op op' : CmpOp} {q q' : QO} (ho : O2 X (compareOp op) q) (ho' : O2 X (compareOp op') q') (ha : E2 X W a Ta) (hb : E2 X W b Tb) (hc : E2 X W c Tc)
    (hm : lastMarks [op, op'] [b, c] = false := by with_unfolding_all rfl) : T2 X W (.Compare a [op, op'] [b, c] pos) (dTest (dChain q q' Ta Tb Tc)) := by
  have h0 := e_chain (pos := pos) ho ho' ha hb hc hm
  refine ⟨dTest.mono h0.mono, ?_⟩
  obtain ⟨ta, pa, ra⟩ := ha.run
  obtain ⟨tb, pb, rb⟩ := hb.run
  obtain ⟨tc, pc, rc⟩ := hc.run
  obtain ⟨r, po, rr⟩ := ho.run
  obtain ⟨r', po', rr'⟩ := ho'.run
  refine ⟨_, pt_chain po po' pa pb pc hm, dTest.run h0.mono fun x ds S σ H Q h p => ?_⟩
  refine ra x ds S σ H _ h (ha.mono x ds S _ _ (fun d S1 p1 v H1 s1 r1 => ?_) p)
  refine rb x ds S1 σ H1 _ (h.step s1) (hb.mono x ds S1 _ _ (fun e S2 p2 u H2 s2 r2 => ?_) p1)
  refine rr d e v u S2 H2 _ s2.wd (r1.mono s2.same) r2 (ho.mono d e S2 _ _ (fun z S3 ⟨k, e1, p3⟩ z' H3 s3 r3 => ?_) p2)
  subst e1
  refine ⟨k, r3, ?_⟩
  have s123 := s1.trans (s2.trans s3)
  refine ite_mono p3 (fun p3 => ?_) (fun p3 => p3 _ _ s123 rfl)
  refine rc x ds S3 σ H3 _ (h.step s123) (hc.mono x ds S3 _ _ (fun f S4 p4 w' H4 s4 r4 => ?_) p3)
  exact rr' e f u w' S4 H4 Q s4.wd (r2.mono (s3.trans s4).same) r4 (ho'.mono e f S4 _ _ (fun z S5 q5 => q5.step (s123.trans s4)) p4)

/-! ### and, or, not, if -/
variable {rest : List Expr}
def dAnd (T U : TT2) : TT2 := fun x ds S Q => T x ds S fun k S1 => if k = true then U x ds S1 Q else Q false S1
def dOr (T U : TT2) : TT2 := fun x ds S Q => T x ds S fun k S1 => if k = true then Q true S1 else U x ds S1 Q
def dNot (T : TT2) : TT2 := fun x ds S Q => T x ds S fun k S1 => Q (!k) S1
theorem w_and1 (h : T2 X W a Tt) : W2 X W (.BoolOp .And [a] pos) Tt := ⟨h.mono, by
  obtain ⟨t, p, r⟩ := h.run
  exact ⟨t, pw_and1 p, r⟩⟩
theorem w_or1 (h : T2 X W a Tt) : W2 X W (.BoolOp .Or [a] pos) Tt := ⟨h.mono, by
  obtain ⟨t, p, r⟩ := h.run
  exact ⟨t, pw_or1 p, r⟩⟩
theorem w_and (ha : T2 X W a Tt) (hb : W2 X W (.BoolOp .And (b :: rest) pos) Tu) : W2 X W (.BoolOp .And (a :: b :: rest) pos) (dAnd Tt Tu) := ⟨fun x ds S Q Q' h p =>
    ha.mono x ds S _ _ (fun k S1 p1 => ite_mono p1 (fun p1 => hb.mono x ds S1 _ _ h p1) (fun p1 => h _ _ p1)) p, by
  obtain ⟨t, p, r⟩ := ha.run
  obtain ⟨u, p', r'⟩ := hb.run
  refine ⟨_, pw_and p p', fun x ds S σ H Q h q => ?_⟩
  refine r x ds S σ H _ h (ha.mono x ds S _ _ (fun k S1 p1 H1 s1 => ?_) q)
  exact ite_mono p1 (fun p1 => r' x ds S1 σ H1 _ (h.step s1) (hb.mono x ds S1 _ _ (fun b S2 q2 => q2.step s1) p1)) (fun p1 => p1 _ s1)⟩
theorem w_or (ha : T2 X W a Tt) (hb : W2 X W (.BoolOp .Or (b :: rest) pos) Tu) : W2 X W (.BoolOp .Or (a :: b :: rest) pos) (dOr Tt Tu) := ⟨fun x ds S Q Q' h p =>
    ha.mono x ds S _ _ (fun k S1 p1 => ite_mono p1 (fun p1 => h _ _ p1) (fun p1 => hb.mono x ds S1 _ _ h p1)) p, by
  obtain ⟨t, p, r⟩ := ha.run
  obtain ⟨u, p', r'⟩ := hb.run
  refine ⟨_, pw_or p p', fun x ds S σ H Q h q => ?_⟩
  refine r x ds S σ H _ h (ha.mono x ds S _ _ (fun k S1 p1 H1 s1 => ?_) q)
  exact ite_mono p1 (fun p1 => p1 _ s1) (fun p1 => r' x ds S1 σ H1 _ (h.step s1) (hb.mono x ds S1 _ _ (fun b S2 q2 => q2.step s1) p1))⟩
theorem t_not (ha : T2 X W a Tt) : T2 X W (.UnaryOp .Not a pos) (dNot Tt) := ⟨fun x ds S Q Q' h p => ha.mono x ds S _ _ (fun k S1 p1 => h _ _ p1) p, by
  obtain ⟨t, p, r⟩ := ha.run
  exact ⟨_, pt_not p, fun x ds S σ H Q h q => r x ds S σ H _ h (ha.mono x ds S _ _ (fun k S1 p1 H1 s1 => p1 _ s1) q)⟩⟩
def dAndV (Ta Tb : TE2) : TE2 := fun x ds S Q => Ta x ds S fun d S1 => ∃ k, d = .bl k ∧ if k = true then Tb x ds S1 Q else Q (.bl false) S1
def dOrV (Ta Tb : TE2) : TE2 := fun x ds S Q => Ta x ds S fun d S1 => ∃ k, d = .bl k ∧ if k = true then Q (.bl true) S1 else Tb x ds S1 Q
def dNotV (Ta : TE2) : TE2 := fun x ds S Q => Ta x ds S fun d S1 => ∃ k, d = .bl k ∧ Q (.bl (!k)) S1
theorem e_one {op} (h : E2 X W a Ta) : E2 X W (.BoolOp op [a] pos) Ta := ⟨h.mono, by
  obtain ⟨t, p, r⟩ := h.run
  exact ⟨t, pe_one p, r⟩⟩
theorem e_and (ha : E2 X W a Ta) (hb : E2 X W (.BoolOp .And (b :: rest) pos) Tb) : E2 X W (.BoolOp .And (a :: b :: rest) pos) (dAndV Ta Tb) := ⟨fun x ds S Q Q' h p =>
    ha.mono x ds S _ _ (fun d S1 ⟨k, e, p1⟩ => ⟨k, e, ite_mono p1 (fun p1 => hb.mono x ds S1 _ _ h p1) (fun p1 => h _ _ p1)⟩) p, by
  obtain ⟨t, p, r⟩ := ha.run
  obtain ⟨u, p', r'⟩ := hb.run
  refine ⟨_, pe_and p p', fun x ds S σ H Q h q => ?_⟩
  refine r x ds S σ H _ h (ha.mono x ds S _ _ (fun d S1 ⟨k, e, p1⟩ v H1 s1 r1 => ?_) q)
  subst e
  exact ⟨k, r1, ite_mono p1 (fun p1 => r' x ds S1 σ H1 _ (h.step s1) (hb.mono x ds S1 _ _ (fun b S2 q2 => q2.step s1) p1)) (fun p1 => p1 _ _ s1 rfl)⟩⟩
theorem e_or (ha : E2 X W a Ta) (hb : E2 X W (.BoolOp .Or (b :: rest) pos) Tb) : E2 X W (.BoolOp .Or (a :: b :: rest) pos) (dOrV Ta Tb) := ⟨fun x ds S Q Q' h p =>
    ha.mono x ds S _ _ (fun d S1 ⟨k, e, p1⟩ => ⟨k, e, ite_mono p1 (fun p1 => h _ _ p1) (fun p1 => hb.mono x ds S1 _ _ h p1)⟩) p, by
  obtain ⟨t, p, r⟩ := ha.run
  obtain ⟨u, p', r'⟩ := hb.run
  refine ⟨_, pe_or p p', fun x ds S σ H Q h q => ?_⟩
  refine r x ds S σ H _ h (ha.mono x ds S _ _ (fun d S1 ⟨k, e, p1⟩ v H1 s1 r1 => ?_) q)
  subst e
  exact ⟨k, r1, ite_mono p1 (fun p1 => p1 _ _ s1 rfl) (fun p1 => r' x ds S1 σ H1 _ (h.step s1) (hb.mono x ds S1 _ _ (fun b S2 q2 => q2.step s1) p1))⟩⟩
theorem e_not (ha : E2 X W a Ta) : E2 X W (.UnaryOp .Not a pos) (dNotV Ta) := ⟨fun x ds S Q Q' h p => ha.mono x ds S _ _ (fun d S1 ⟨k, e, p1⟩ => ⟨k, e, h _ _ p1⟩) p, by
  obtain ⟨t, p, r⟩ := ha.run
  refine ⟨_, pe_not p, fun x ds S σ H Q h q => r x ds S σ H _ h (ha.mono x ds S _ _ (fun d S1 ⟨k, e, p1⟩ v H1 s1 r1 => ?_) q)⟩
  subst e
  exact ⟨k, r1, p1 _ _ s1 rfl⟩⟩
def dIf (T : TT2) (Ta Tb : TE2) : TE2 := fun x ds S Q => T x ds S fun k S1 => if k = true then Ta x ds S1 Q else Tb x ds S1 Q
theorem e_if (hc : T2 X W c Tt) (ha : E2 X W a Ta) (hb : E2 X W b Tb) : E2 X W (.IfExp c a b pos) (dIf Tt Ta Tb) := ⟨fun x ds S Q Q' h p =>
    hc.mono x ds S _ _ (fun k S1 p1 => ite_mono p1 (fun p1 => ha.mono x ds S1 _ _ h p1) (fun p1 => hb.mono x ds S1 _ _ h p1)) p, by
  obtain ⟨tc, pc, rc⟩ := hc.run
  obtain ⟨ta, pa, ra⟩ := ha.run
  obtain ⟨tb, pb, rb⟩ := hb.run
  refine ⟨_, pe_ifExp pc pa pb, fun x ds S σ H Q h q => ?_⟩
  refine rc x ds S σ H _ h (hc.mono x ds S _ _ (fun k S1 p1 H1 s1 => ?_) q)
  exact ite_mono p1 (fun p1 => ra x ds S1 σ H1 _ (h.step s1) (ha.mono x ds S1 _ _ (fun b S2 q2 => q2.step s1) p1)) (fun p1 => rb x ds S1 σ H1 _ (h.step s1) (hb.mono x ds S1 _ _ (fun b S2 q2 => q2.step s1) p1))⟩

/-! ### argument lists, displays -/
def dNil : TA2 := fun _ _ S Q => Q [] S
def dCons (T : TE2) (U : TA2) : TA2 := fun x ds S Q => T x ds S fun d S1 => U x ds S1 fun es S2 => Q (d :: es) S2
theorem a_nil : A2 X W [] dNil := ⟨fun _ _ _ _ _ h q => h _ _ q, _, pa_nil, fun x ds S σ H Q h q => q _ H h.refl rfl⟩
theorem a_cons (ha : E2 X W e Te) (hr : A2 X W es TA) (hs : starEach (e :: es) X.env = (false, eval e X.env) :: starEach es X.env := by rfl) : A2 X W (e :: es) (dCons Te TA) := ⟨fun x ds S Q Q' h p =>
    ha.mono x ds S _ _ (fun d S1 p1 => hr.mono x ds S1 _ _ (fun fs S2 p2 => h _ _ p2) p1) p, by
  obtain ⟨t, p, r⟩ := ha.run
  obtain ⟨u, p', r'⟩ := hr.run
  refine ⟨_, pa_cons p p' hs, fun x ds S σ H Q h q => ?_⟩
  refine r x ds S σ H _ h (ha.mono x ds S _ _ (fun d S1 p1 v H1 s1 r1 => ?_) q)
  refine r' x ds S1 σ H1 _ (h.step s1) (hr.mono x ds S1 _ _ (fun fs S2 p2 vs H2 s2 r2 => ?_) p1)
  exact p2 (v :: vs) H2 (s1.trans s2) ⟨v, vs, rfl, r1.mono s2.same, r2⟩⟩
theorem size_le {n : Nat} (h : n ≤ 100000) : n ≤ sizeLine := Nat.le_trans h (by decide)
/-- a new list: of data, or one that may change -/
def newL (ds : List Dt) (S : Cells) (Q : QE) : Prop := Q (.lst ds) S ∨ ∀ p, S p = none → Q (.ref p) (S.put p (.lst ds))
theorem newL.mono {ds : List Dt} {S : Cells} {Q Q' : QE} (h : ∀ d S', Q d S' → Q' d S') (q : newL ds S Q) : newL ds S Q' := q.imp (fun q => h _ _ q) (fun q p hp => h _ _ (q p hp))
theorem newL.run {K : PySem.W.Frag} {S S1 : Cells} {H H1 : Hp} {Q : VK} {ds : List Dt} {vs : List V} (s1 : Step K S H S1 H1) (r : Rps K (wo S1 H1) ds vs) (q : newL ds S1 (up K S H Q)) {p : Addr} (hp : H1 p = none) : Q (.ref p) (upd H1 p (.lst vs)) := by
  rcases q with q | q
  · exact q _ _ (s1.trans ⟨new_same s1.wd hp, new_wd s1.wd hp⟩) ⟨p, vs, rfl, SqL.of (new_at s1.wd hp), r.mono (new_same s1.wd hp)⟩
  · have w := put_wo (S := S1) (H := H1) (p := p) (o := .lst vs) (.lst ds) (.inr hp)
    refine q p (s1.wd.free hp) _ _ (s1.trans ⟨?_, put_wd s1.wd (.inr hp) ⟨vs, upd_same, r⟩⟩) rfl
    rw [w]
    exact Same.refl _
theorem newT.run {K : PySem.W.Frag} {S S1 : Cells} {H H1 : Hp} {Q : VK} {ds : List Dt} {vs : List V} (s1 : Step K S H S1 H1) (r : Rps K (wo S1 H1) ds vs) (q : up K S H Q (.tup ds) S1) {p : Addr} (hp : H1 p = none) : Q (.ref p) (upd H1 p (.tup vs)) :=
  q _ _ (s1.trans ⟨new_same s1.wd hp, new_wd s1.wd hp⟩) ⟨p, vs, rfl, SqT.of (new_at s1.wd hp), r.mono (new_same s1.wd hp)⟩
def dTup (T : TA2) : TE2 := fun x ds S Q => T x ds S fun es S1 => es.length ≤ 100000 ∧ Q (.tup es) S1
def dLst (T : TA2) : TE2 := fun x ds S Q => T x ds S fun es S1 => es.length ≤ 100000 ∧ newL es S1 Q
theorem e_tup {x1} (h : A2 X W es TA) : E2 X W (.Tuple es x1 pos) (dTup TA) := ⟨fun x ds S Q Q' hq p => h.mono x ds S _ _ (fun d S1 p1 => ⟨p1.1, hq _ _ p1.2⟩) p, by
  obtain ⟨t, p, r⟩ := h.run
  refine ⟨_, pe_tup p, fun x ds S σ H Q hh q => r x ds S σ H _ hh (h.mono x ds S _ _ (fun d S1 p1 vs H1 s1 r1 => ⟨?_, fun p hp => newT.run s1 r1 p1.2 hp⟩) q)⟩
  rw [r1.length]
  exact size_le p1.1⟩
theorem e_lst (h : A2 X W es TA) : E2 X W (.List es pos) (dLst TA) := ⟨fun x ds S Q Q' hq p => h.mono x ds S _ _ (fun d S1 p1 => ⟨p1.1, newL.mono hq p1.2⟩) p, by
  obtain ⟨t, p, r⟩ := h.run
  refine ⟨_, pe_lst p, fun x ds S σ H Q hh q => r x ds S σ H _ hh (h.mono x ds S _ _ (fun d S1 p1 vs H1 s1 r1 => ⟨?_, fun p hp => newL.run s1 r1 p1.2 hp⟩) q)⟩
  rw [r1.length]
  exact size_le p1.1⟩

/-! ### calls -/
abbrev Sp2 := List Dt → Cells → QE → (Addr → Cells → Prop) → Prop
def lift (K : PySem.W.Frag) (sp : Sp2) : Sp := fun vs H Q E => ∃ S ds, Wd K S H ∧ Rps K (wo S H) ds vs ∧ sp ds S (up K S H Q) fun C S' => ∀ H', Step K S H S' H' → E (.ref C) none H'
structure Sp2.Mono (sp : Sp2) : Prop where
  q : ∀ ds S Q Q' E E', (∀ d S', Q d S' → Q' d S') → (∀ C S', E C S' → E' C S') → sp ds S Q E → sp ds S Q' E'
/-- the def at x keeps the promise sp -/
def Has (P : Program) (w : World) (K : PySem.W.Frag) (mg : Str → Option Value) (base : Heap) (k : Nat) (x : Str) (ps : List Str) (sp : Sp2) : Prop :=
  sp.Mono ∧ ∃ (f : Addr) (fd : FuncData), mg x = some (.ref f) ∧ PySem.W.keepIn K (.ref f) = true ∧ Binds K fd ps [] ∧ FnOk P w K mg base (L2N.CX P w) k f fd ps (lift K sp)
def dCall (sp : Sp2) (T : TA2) : TE2 := fun x ds S Q => T x ds S fun vs S1 => sp vs S1 Q fun C S' => x C ds S'
theorem dCall.mono {sp : Sp2} (m : sp.Mono) (h : A2 X W es TA) : ∀ x ds S Q Q', (∀ d S', Q d S' → Q' d S') → dCall sp TA x ds S Q → dCall sp TA x ds S Q' :=
  fun x ds S Q Q' hq p => h.mono x ds S _ _ (fun d S1 p1 => m.q _ _ _ _ _ _ hq (fun _ _ z => z) p1) p
theorem e_call {k : Nat} {x : Str} {ps : List Str} {sp : Sp2} {p : Pos} (F : Has X.prog X.w X.K X.mg X.base k x ps sp) (hr : Room k X.A) (tk : L2N.Takes X W) (ha : A2 X W (e :: es) TA) (hg : Gl X x := by rfl)
    (hdb : (x == ("__debug__" : Str)) = false := by decide) (he : starEach (e :: es) X.env = (false, eval e X.env) :: starEach es X.env := by rfl) (hpl : (backTo pos (starEach es X.env)).any (·.1) = false := by rfl) :
    E2 X W (.Call (.Name x p) (e :: es) [] pos) (dCall sp TA) := by
  obtain ⟨m, f, fd, hm, kp, b, F⟩ := F
  refine ⟨dCall.mono m ha, ?_⟩
  obtain ⟨t, pt, r⟩ := ha.run
  refine ⟨_, pe_callS (E := WE W) F hr hg hm kp b (fun σ => L2N.passAt tk σ) pt hdb he hpl, fun x ds S σ H Q h q => ?_⟩
  refine r x ds S σ H _ h (ha.mono x ds S _ _ (fun d S1 p1 vs H1 s1 r1 => ?_) q)
  refine ⟨S1, d, s1.wd, r1, m.q _ _ _ _ _ _ (fun z S2 q2 => q2.step s1) (fun C S2 q2 H2 s2 => ?_) p1⟩
  exact (h.step s1).xe C ds S2 q2 σ H2 s2 ((h.step s1).rs.mono s2.same)
theorem pe_callS0 {k : Nat} {f : Addr} {fd : FuncData} {ps : List Str} {sp : Sp} {E : L2.St → XK} {x : Str} {p : Pos} {CX : CXT} (F : FnOk X.prog X.w X.K X.mg X.base CX k f fd ps sp) (hr : Room k X.A) (hg : Gl X x) (hm : X.mg x = some (.ref f)) (hk : PySem.W.keepIn X.K (.ref f) = true) (hb : Binds X.K fd ps []) (hx : ∀ σ, PassesAt CX X σ (E σ))
    (hdb : (x == ("__debug__" : Str)) = false := by decide) : PE X (.Call (.Name x p) [] [] pos) (tCallS sp E tNil) := by
  refine ⟨fun pins s σ H Q I h => ?_⟩
  refine wpAny_Call_Name_kw (ld_glob I hg hm ?_ hdb)
  exact PySem.W.callWith_K0 I.kIn hk (run_fnS (us := []) F hr hb (hx σ) I .nil h)
theorem e_call0 {k : Nat} {x : Str} {ps : List Str} {sp : Sp2} {p : Pos} (F : Has X.prog X.w X.K X.mg X.base k x ps sp) (hr : Room k X.A) (tk : L2N.Takes X W) (hg : Gl X x := by rfl)
    (hdb : (x == ("__debug__" : Str)) = false := by decide) : E2 X W (.Call (.Name x p) [] [] pos) (dCall sp dNil) := by
  obtain ⟨m, f, fd, hm, kp, b, F⟩ := F
  refine ⟨dCall.mono m (a_nil (X := X) (W := W)), ?_⟩
  refine ⟨_, pe_callS0 (E := WE W) F hr hg hm kp b (fun σ => L2N.passAt tk σ) hdb, fun x ds S σ H Q h q => ?_⟩
  refine ⟨S, [], h.wd, rfl, m.q _ _ _ _ _ _ (fun z S2 q2 => q2) (fun C S2 q2 H2 s2 => ?_) q⟩
  exact h.xe C ds S2 q2 σ H2 s2 (h.rs.mono s2.same)
/-- a built-in, by the values of its arguments -/
abbrev QC := List Dt → Cells → QE → Prop
structure C2 (X : Cx) (f : Value) (q : QC) : Prop where
  mono : ∀ ds S Q Q', (∀ d S', Q d S' → Q' d S') → q ds S Q → q ds S Q'
  run : ∃ r, CallR X f r ∧ ∀ ds vs S H Q, Wd X.K S H → Rps X.K (wo S H) ds vs → q ds S (up X.K S H Q) → r vs H Q
def dCB (q : QC) (T : TA2) : TE2 := fun x ds S Q => T x ds S fun vs S1 => q vs S1 Q
theorem e_callB {x : Str} {id : String} {q : QC} {p : Pos} (hc : C2 X (.builtin id) q) (hm : X.mg x = none) (hv : bootBuiltins x = some (.builtin id)) (ha : A2 X W (e :: es) TA) (hg : Gl X x := by rfl) (hn : x ≠ "__name__" := by decide) (hdb : (x == ("__debug__" : Str)) = false := by decide)
    (he : starEach (e :: es) X.env = (false, eval e X.env) :: starEach es X.env := by rfl) (hpl : (backTo pos (starEach es X.env)).any (·.1) = false := by rfl) : E2 X W (.Call (.Name x p) (e :: es) [] pos) (dCB q TA) := ⟨fun x ds S Q Q' h p =>
    ha.mono x ds S _ _ (fun d S1 p1 => hc.mono _ _ _ _ h p1) p, by
  obtain ⟨r, pr, rr⟩ := hc.run
  obtain ⟨t, pt, rt⟩ := ha.run
  refine ⟨_, pe_callB pr hg hm hv pt hn hdb he hpl, fun x ds S σ H Q h q => ?_⟩
  refine rt x ds S σ H _ h (ha.mono x ds S _ _ (fun d S1 p1 vs H1 s1 r1 => ?_) q)
  exact rr d vs S1 H1 Q s1.wd r1 (hc.mono _ _ _ _ (fun z S2 q2 => q2.step s1) p1)⟩
theorem e_callTy {x : Str} {T : String} {q : QC} {p : Pos} (hc : C2 X (.type T) q) (hm : X.mg x = none) (hv : bootBuiltins x = some (.type T)) (ha : A2 X W (e :: es) TA) (hg : Gl X x := by rfl) (hn : x ≠ "__name__" := by decide) (hdb : (x == ("__debug__" : Str)) = false := by decide)
    (he : starEach (e :: es) X.env = (false, eval e X.env) :: starEach es X.env := by rfl) (hpl : (backTo pos (starEach es X.env)).any (·.1) = false := by rfl) : E2 X W (.Call (.Name x p) (e :: es) [] pos) (dCB q TA) := ⟨fun x ds S Q Q' h p =>
    ha.mono x ds S _ _ (fun d S1 p1 => hc.mono _ _ _ _ h p1) p, by
  obtain ⟨r, pr, rr⟩ := hc.run
  obtain ⟨t, pt, rt⟩ := ha.run
  refine ⟨_, pe_callTy pr hg hm hv pt hn hdb he hpl, fun x ds S σ H Q h q => ?_⟩
  refine rt x ds S σ H _ h (ha.mono x ds S _ _ (fun d S1 p1 vs H1 s1 r1 => ?_) q)
  exact rr d vs S1 H1 Q s1.wd r1 (hc.mono _ _ _ _ (fun z S2 q2 => q2.step s1) p1)⟩
end
end Sc

namespace Sc
open PySem PySem.Spec PyProof.Rows L2
/-! ### ints -/
def qI (C : Int → Int → Prop) (g : Int → Int → Dt) : QO := fun d e S Q => ∃ i j, d = .int i ∧ e = .int j ∧ C i j ∧ Q (g i j) S
def qI0 (g : Int → Int → Dt) : QO := fun d e S Q => ∃ i j, d = .int i ∧ e = .int j ∧ Q (g i j) S
section
variable {X : Cx} {f : Value → Value → Sem Value} {W : WX} {a b e : Expr} {es : List Expr} {Ta Tb Te : TE2} {Tt Tu : TT2} {TA : TA2} {pos : Pos}
theorem o_I {C : Int → Int → Prop} {g : Int → Int → Int} (h : OpR X f (rI C fun i j => .int (g i j))) : O2 X f (qI C fun i j => .int (g i j)) := ⟨fun d e S Q Q' hq ⟨i, j, e1, e2, c, q⟩ => ⟨i, j, e1, e2, c, hq _ _ q⟩,
  _, h, fun d e v u S H Q w r1 r2 ⟨i, j, e1, e2, c, q⟩ => by
    subst e1 e2
    exact ⟨i, j, r1, r2, c, q _ H ⟨Same.refl _, w⟩ rfl⟩⟩
theorem o_I0 {g : Int → Int → Int} (h : OpR X f (rI0 fun i j => .int (g i j))) : O2 X f (qI0 fun i j => .int (g i j)) := ⟨fun d e S Q Q' hq ⟨i, j, e1, e2, q⟩ => ⟨i, j, e1, e2, hq _ _ q⟩,
  _, h, fun d e v u S H Q w r1 r2 ⟨i, j, e1, e2, q⟩ => by
    subst e1 e2
    exact ⟨i, j, r1, r2, q _ H ⟨Same.refl _, w⟩ rfl⟩⟩
theorem o_B0 {g : Int → Int → Bool} (h : OpR X f (rI0 fun i j => .bl (g i j))) : O2 X f (qI0 fun i j => .bl (g i j)) := ⟨fun d e S Q Q' hq ⟨i, j, e1, e2, q⟩ => ⟨i, j, e1, e2, hq _ _ q⟩,
  _, h, fun d e v u S H Q w r1 r2 ⟨i, j, e1, e2, q⟩ => by
    subst e1 e2
    exact ⟨i, j, r1, r2, q _ H ⟨Same.refl _, w⟩ rfl⟩⟩
abbrev qAdd : QO := qI0 fun i j => .int (i + j)
abbrev qSub : QO := qI0 fun i j => .int (i - j)
abbrev qMul : QO := qI CMul fun i j => .int (i * j)
abbrev qFdiv : QO := qI CDivW fun i j => .int (i / j)
abbrev qFdivN : QO := qI CDivN fun i j => .int (i.fdiv j)
abbrev qMod : QO := qI (fun _ j => 0 < j) fun i j => .int (i % j)
abbrev qPow : QO := qI CPow fun i j => .int (i ^ j.toNat)
abbrev qLt : QO := qI0 fun i j => .bl (decide (i < j))
abbrev qLe : QO := qI0 fun i j => .bl (decide (i ≤ j))
abbrev qGt : QO := qI0 fun i j => .bl (decide (j < i))
abbrev qGe : QO := qI0 fun i j => .bl (decide (j ≤ i))
theorem o_add : O2 X (binaryOp .Add) (qI0 fun i j => .int (i + j)) := o_I0 op_add
theorem o_sub : O2 X (binaryOp .Sub) (qI0 fun i j => .int (i - j)) := o_I0 op_sub
theorem o_mul : O2 X (binaryOp .Mult) (qI CMul fun i j => .int (i * j)) := o_I op_mul
/-- // by a positive divisor below 2 ^ 9000 -/
theorem o_fdiv : O2 X (binaryOp .FloorDiv) (qI CDivW fun i j => .int (i / j)) := o_I op_fdivW
theorem o_fdivN : O2 X (binaryOp .FloorDiv) (qI CDivN fun i j => .int (i.fdiv j)) := o_I op_fdivN
theorem o_mod : O2 X (binaryOp .Mod) (qI (fun _ j => 0 < j) fun i j => .int (i % j)) := o_I op_mod
theorem o_modN : O2 X (binaryOp .Mod) (qI (fun _ j => j ≠ 0) fun i j => .int (i.fmod j)) := o_I op_modN
theorem o_pow : O2 X (binaryOp .Pow) (qI CPow fun i j => .int (i ^ j.toNat)) := o_I op_pow
theorem o_lt : O2 X (compareOp .Lt) (qI0 fun i j => .bl (decide (i < j))) := o_B0 op_lt
theorem o_le : O2 X (compareOp .LtE) (qI0 fun i j => .bl (decide (i ≤ j))) := o_B0 op_le
theorem o_gt : O2 X (compareOp .Gt) (qI0 fun i j => .bl (decide (j < i))) := o_B0 op_gt
theorem o_ge : O2 X (compareOp .GtE) (qI0 fun i j => .bl (decide (j ≤ i))) := o_B0 op_ge
/-! ### == of scalars -/
def sEq : Dt → Dt → Option Bool
  | .non, .non => some true | .non, .int _ => some false | .int _, .non => some false | .non, .bl _ => some false | .bl _, .non => some false | .non, .str _ => some false | .str _, .non => some false
  | .int i, .int j => some (decide (i = j)) | .bl i, .bl j => some (decide (i = j)) | .str i, .str j => some (decide (i = j))
  | .int _, .str _ => some false | .str _, .int _ => some false | .bl _, .str _ => some false | .str _, .bl _ => some false
  | _, _ => none
def qEq : QO := fun d e S Q => ∃ b, sEq d e = some b ∧ Q (.bl b) S
def qNe : QO := fun d e S Q => ∃ b, sEq d e = some b ∧ Q (.bl (!b)) S
theorem sEq_ok {K : PySem.W.Frag} {I : Hp} {d e : Dt} {v u : V} {b : Bool} (r1 : Rp K I d v) (r2 : Rp K I e u) (h : sEq d e = some b) : scal v u = true ∧ decide (v = u) = b := by
  cases d <;> cases e <;> (try (cases (show none = some b from h))) <;>
    (have r1' := r1
     have r2' := r2
     simp only [Rp] at r1' r2'
     subst r1' r2'
     first
       | exact ⟨rfl, Option.some.inj h⟩
       | (refine ⟨rfl, ?_⟩; have h' := Option.some.inj h; rw [← h']; simp))
theorem o_eq : O2 X (compareOp .Eq) qEq := ⟨fun d e S Q Q' hq ⟨b, h, q⟩ => ⟨b, h, hq _ _ q⟩, _, op_eq, fun d e v u S H Q w r1 r2 ⟨b, h, q⟩ => by
  obtain ⟨h1, h2⟩ := sEq_ok r1 r2 h
  exact ⟨h1, by rw [h2]; exact q _ H ⟨Same.refl _, w⟩ rfl⟩⟩
theorem o_ne : O2 X (compareOp .NotEq) qNe := ⟨fun d e S Q Q' hq ⟨b, h, q⟩ => ⟨b, h, hq _ _ q⟩, _, op_ne, fun d e v u S H Q w r1 r2 ⟨b, h, q⟩ => by
  obtain ⟨h1, h2⟩ := sEq_ok r1 r2 h
  exact ⟨h1, by rw [h2]; exact q _ H ⟨Same.refl _, w⟩ rfl⟩⟩
/-! ### is None -/
def isN : Dt → Bool
  | .non => true
  | _ => false
theorem isN_ok {K : PySem.W.Frag} {I : Hp} {d : Dt} {v : V} (r : Rp K I d v) : decide (v = .non) = isN d := by
  cases d <;> (have r' := r; simp only [Rp] at r') <;> first
    | (subst r'; rfl)
    | (obtain ⟨_, _, e, _⟩ := r'; subst e; rfl)
    | (subst r'; simp [isN])
def qIsN : QO := fun d e S Q => e = .non ∧ Q (.bl (isN d)) S
def qNotN : QO := fun d e S Q => e = .non ∧ Q (.bl (!isN d)) S
theorem o_isN : O2 X (compareOp .Is) qIsN := ⟨fun d e S Q Q' hq ⟨h, q⟩ => ⟨h, hq _ _ q⟩, _, op_isN, fun d e v u S H Q w r1 r2 ⟨h, q⟩ => by
  subst h
  exact ⟨r2, by rw [isN_ok r1]; exact q _ H ⟨Same.refl _, w⟩ rfl⟩⟩
theorem o_notN : O2 X (compareOp .IsNot) qNotN := ⟨fun d e S Q Q' hq ⟨h, q⟩ => ⟨h, hq _ _ q⟩, _, op_notN, fun d e v u S H Q w r1 r2 ⟨h, q⟩ => by
  subst h
  exact ⟨r2, by rw [isN_ok r1]; exact q _ H ⟨Same.refl _, w⟩ rfl⟩⟩
def qIsB : QO := fun d e S Q => ∃ i j, d = .bl i ∧ e = .bl j ∧ Q (.bl (decide (i = j))) S
def qNotB : QO := fun d e S Q => ∃ i j, d = .bl i ∧ e = .bl j ∧ Q (.bl (!decide (i = j))) S
theorem o_isB : O2 X (compareOp .Is) qIsB := ⟨fun d e S Q Q' hq ⟨i, j, e1, e2, q⟩ => ⟨i, j, e1, e2, hq _ _ q⟩, _, op_isBl, fun d e v u S H Q w r1 r2 ⟨i, j, e1, e2, q⟩ => by
  subst e1 e2
  exact ⟨i, j, r1, r2, q _ H ⟨Same.refl _, w⟩ rfl⟩⟩
theorem o_notB : O2 X (compareOp .IsNot) qNotB := ⟨fun d e S Q Q' hq ⟨i, j, e1, e2, q⟩ => ⟨i, j, e1, e2, hq _ _ q⟩, _, op_notBl, fun d e v u S H Q w r1 r2 ⟨i, j, e1, e2, q⟩ => by
  subst e1 e2
  exact ⟨i, j, r1, r2, q _ H ⟨Same.refl _, w⟩ rfl⟩⟩
/-! ### unary minus -/
structure U2 (X : Cx) (f : Value → Sem Value) (q : Dt → Cells → QE → Prop) : Prop where
  mono : ∀ d S Q Q', (∀ d S', Q d S' → Q' d S') → q d S Q → q d S Q'
  run : ∃ r, UnR X f r ∧ ∀ d v S H Q, Wd X.K S H → Rp X.K (wo S H) d v → q d S (up X.K S H Q) → r v H Q
def dUn (q : Dt → Cells → QE → Prop) (T : TE2) : TE2 := fun x ds S Q => T x ds S fun d S1 => q d S1 Q
theorem e_un {op : UnaryOp} {q : Dt → Cells → QE → Prop} (ho : U2 X (unaryOp op) q) (ha : E2 X W a Ta) : E2 X W (.UnaryOp op a pos) (dUn q Ta) := ⟨fun x ds S Q Q' h p => ha.mono x ds S _ _ (fun d S1 p1 => ho.mono _ _ _ _ h p1) p, by
  obtain ⟨t, p, r⟩ := ha.run
  obtain ⟨rr, po, ro⟩ := ho.run
  exact ⟨_, pe_un po p, fun x ds S σ H Q h q => r x ds S σ H _ h (ha.mono x ds S _ _ (fun d S1 p1 v H1 s1 r1 => ro d v S1 H1 Q s1.wd r1 (ho.mono _ _ _ _ (fun z S2 q2 => q2.step s1) p1)) q)⟩⟩
def qNeg : Dt → Cells → QE → Prop := fun d S Q => ∃ i, d = .int i ∧ Q (.int (-i)) S
theorem u_neg : U2 X (unaryOp .USub) qNeg := ⟨fun d S Q Q' hq ⟨i, e, q⟩ => ⟨i, e, hq _ _ q⟩, _, un_neg, fun d v S H Q w r1 ⟨i, e, q⟩ => by
  subst e
  exact ⟨i, r1, q _ H ⟨Same.refl _, w⟩ rfl⟩⟩
/-! ### what may be read as a list, a tuple -/
def asL (S : Cells) : Dt → Option (List Dt)
  | .lst ds => some ds
  | .ref a => match S a with
    | some (.lst ds) => some ds
    | _ => none
  | _ => none
def asT : Dt → Option (List Dt)
  | .tup ds => some ds
  | _ => none
def asQ (S : Cells) : Dt → Option (List Dt)
  | .tup ds => some ds
  | d => asL S d
theorem asL_ok {K : PySem.W.Frag} {S : Cells} {H : Hp} {d : Dt} {ds : List Dt} {v : V} (w : Wd K S H) (r : Rp K (wo S H) d v) (h : asL S d = some ds) : ∃ a xs, v = .ref a ∧ SqL K H a xs ∧ Rps K (wo S H) ds xs := by
  cases d with
  | lst es =>
    cases (show some es = some ds from h)
    obtain ⟨a, xs, e, h1, h2⟩ := r
    exact ⟨a, xs, e, sqL_mono wo_le h1, h2⟩
  | ref a =>
    have h' : (match S a with | some (.lst ds) => some ds | _ => none) = some ds := h
    cases q : S a with
    | none => rw [q] at h'; cases h'
    | some c =>
      cases c with
      | ins C fs => rw [q] at h'; cases h'
      | lst es =>
        rw [q] at h'
        cases (show some es = some ds from h')
        obtain ⟨xs, h1, h2⟩ := w a _ q
        exact ⟨a, xs, r, SqL.of h1, h2⟩
  | _ => cases h
theorem asT_ok {K : PySem.W.Frag} {S : Cells} {H : Hp} {d : Dt} {ds : List Dt} {v : V} (r : Rp K (wo S H) d v) (h : asT d = some ds) : ∃ a xs, v = .ref a ∧ SqT K H a xs ∧ Rps K (wo S H) ds xs := by
  cases d with
  | tup es =>
    cases (show some es = some ds from h)
    obtain ⟨a, xs, e, h1, h2⟩ := r
    exact ⟨a, xs, e, sqT_mono wo_le h1, h2⟩
  | _ => cases h
theorem asQ_ok {K : PySem.W.Frag} {S : Cells} {H : Hp} {d : Dt} {ds : List Dt} {v : V} (w : Wd K S H) (r : Rp K (wo S H) d v) (h : asQ S d = some ds) : ∃ a xs, v = .ref a ∧ (SqL K H a xs ∨ SqT K H a xs) ∧ Rps K (wo S H) ds xs := by
  cases d with
  | tup es =>
    obtain ⟨a, xs, h1, h2, h3⟩ := asT_ok r (show asT (.tup es) = some ds from h)
    exact ⟨a, xs, h1, .inr h2, h3⟩
  | lst es =>
    obtain ⟨a, xs, h1, h2, h3⟩ := asL_ok w r (show asL S (.lst es) = some ds from h)
    exact ⟨a, xs, h1, .inl h2, h3⟩
  | ref a =>
    obtain ⟨a, xs, h1, h2, h3⟩ := asL_ok w r (show asL S (.ref a) = some ds from h)
    exact ⟨a, xs, h1, .inl h2, h3⟩
  | _ => cases h
/-! ### truth -/
def truD (S : Cells) : Dt → Option Bool
  | .non => some false
  | .bl b => some b
  | .int i => some (i != 0)
  | .str _ => none
  | d => (asQ S d).map fun ds => !ds.isEmpty
theorem isEmpty_rps {K : PySem.W.Frag} {I : Hp} {ds : List Dt} {xs : List V} (h : Rps K I ds xs) : ds.isEmpty = xs.isEmpty := by
  cases ds with
  | nil => cases (show xs = [] from h); rfl
  | cons d ds => obtain ⟨v, vs, e, _⟩ := h; subst e; rfl
theorem truD_ok {K : PySem.W.Frag} {S : Cells} {H : Hp} {d : Dt} {v : V} {k : Bool} (w : Wd K S H) (r : Rp K (wo S H) d v) (h : truD S d = some k) : TruV K v H k := by
  have seq : ∀ ds, asQ S d = some ds → k = !ds.isEmpty → TruV K v H k := fun ds h1 h2 => by
    obtain ⟨a, xs, e, h3, h4⟩ := asQ_ok w r h1
    subst e
    rw [isEmpty_rps h4] at h2
    rcases h3 with h3 | h3
    · exact .inl ⟨xs, h3, h2⟩
    · exact .inr (.inl ⟨xs, h3, h2⟩)
  cases d with
  | non => cases (show v = _ from r); exact (Option.some.inj h).symm
  | bl b => cases (show v = _ from r); exact (Option.some.inj h).symm
  | int i => cases (show v = _ from r); exact (Option.some.inj h).symm
  | str s => cases h
  | tup ds => exact seq ds rfl (Option.some.inj h).symm
  | lst ds => exact seq ds rfl (Option.some.inj h).symm
  | ref a =>
    cases q : asQ S (.ref a) with
    | none =>
      have h' : (asQ S (.ref a)).map (fun ds => !ds.isEmpty) = some k := h
      rw [q] at h'
      cases h'
    | some ds =>
      have h' : (asQ S (.ref a)).map (fun ds => !ds.isEmpty) = some k := h
      rw [q] at h'
      exact seq ds q (Option.some.inj h').symm
def dTru (T : TE2) : TT2 := fun x ds S Q => T x ds S fun d S1 => ∃ k, truD S1 d = some k ∧ Q k S1
theorem t_tru (he : E2 X W e Te) (hs : ∀ whole, isTrue e X.env whole = (do let v ← whole; standAt e.pos; holding [v] (truthy v)) := by intro _; rfl) : T2 X W e (dTru Te) := ⟨fun x ds S Q Q' h p => he.mono x ds S _ _ (fun d S1 ⟨k, e, q⟩ => ⟨k, e, h _ _ q⟩) p, by
  obtain ⟨t, p, r⟩ := he.run
  exact ⟨_, pt_truth p hs, fun x ds S σ H Q h q => r x ds S σ H _ h (he.mono x ds S _ _ (fun d S1 ⟨k, e, q⟩ v H1 s1 r1 => ⟨k, truD_ok s1.wd r1 e, q _ s1⟩) q)⟩⟩
def dOrT (Ta Tb : TE2) : TE2 := fun x ds S Q => Ta x ds S fun d S1 => ∃ k, truD S1 d = some k ∧ if k = true then Q d S1 else Tb x ds S1 Q
theorem e_orT {rest : List Expr} (ha : E2 X W a Ta) (hb : E2 X W (.BoolOp .Or (b :: rest) pos) Tb) : E2 X W (.BoolOp .Or (a :: b :: rest) pos) (dOrT Ta Tb) := ⟨fun x ds S Q Q' h p =>
    ha.mono x ds S _ _ (fun d S1 ⟨k, e, p1⟩ => ⟨k, e, ite_mono p1 (fun p1 => h _ _ p1) (fun p1 => hb.mono x ds S1 _ _ h p1)⟩) p, by
  obtain ⟨t, p, r⟩ := ha.run
  obtain ⟨u, p', r'⟩ := hb.run
  refine ⟨_, pe_orT p p', fun x ds S σ H Q h q => ?_⟩
  refine r x ds S σ H _ h (ha.mono x ds S _ _ (fun d S1 ⟨k, e, p1⟩ v H1 s1 r1 => ⟨k, truD_ok s1.wd r1 e, ?_⟩) q)
  exact ite_mono p1 (fun p1 => p1 _ _ s1 r1) (fun p1 => r' x ds S1 σ H1 _ (h.step s1) (hb.mono x ds S1 _ _ (fun b S2 q2 => q2.step s1) p1))⟩
/-! ### subscripts -/
structure I2 (X : Cx) (q : QO) : Prop where
  mono : ∀ d e S Q Q', (∀ d S', Q d S' → Q' d S') → q d e S Q → q d e S Q'
  run : ∃ r, IxR X r ∧ ∀ d e v u S H Q, Wd X.K S H → Rp X.K (wo S H) d v → Rp X.K (wo S H) e u → q d e S (up X.K S H Q) → r v u H Q
theorem e_ix {q : QO} (ho : I2 X q) (ha : E2 X W a Ta) (hb : E2 X W b Tb) (hs : PlainIx b := by exact fun _ _ => rfl) : E2 X W (.Subscript a b pos) (dOp q Ta Tb) := ⟨dOp.mono ho.mono ha hb, by
  obtain ⟨ta, pa, ra⟩ := ha.run
  obtain ⟨tb, pb, rb⟩ := hb.run
  obtain ⟨r, po, rr⟩ := ho.run
  exact ⟨_, pe_ix po pa pb hs, dOp.run rr ho.mono ha.mono hb.mono ra rb⟩⟩
def qIx : QO := fun d e S Q => ∃ ds i z, asQ S d = some ds ∧ e = .int i ∧ atI ds i = some z ∧ Q z S
theorem rps_atI {K : PySem.W.Frag} {I : Hp} {ds : List Dt} {xs : List V} {i : Int} {z : Dt} (h : Rps K I ds xs) (e : atI ds i = some z) : ∃ v, atI xs i = some v ∧ Rp K I z v := by
  unfold atI at e ⊢
  rw [h.length]
  cases q : ixN ds.length i with
  | none => rw [q] at e; cases e
  | some j =>
    rw [q] at e
    exact h.get e
theorem i_seq : I2 X qIx := ⟨fun d e S Q Q' hq ⟨ds, i, z, h1, h2, h3, q⟩ => ⟨ds, i, z, h1, h2, h3, hq _ _ q⟩, _, ix_list.or ix_tup, fun d e v u S H Q w r1 r2 ⟨ds, i, z, h1, h2, h3, q⟩ => by
  subst h2
  obtain ⟨a, xs, e, hs, hr⟩ := asQ_ok w r1 h1
  obtain ⟨zv, h4, h5⟩ := rps_atI hr h3
  rcases hs with hs | hs
  · exact .inl ⟨a, xs, i, zv, e, r2, hs, h4, q _ H ⟨Same.refl _, w⟩ h5⟩
  · exact .inr ⟨a, xs, i, zv, e, r2, hs, h4, q _ H ⟨Same.refl _, w⟩ h5⟩⟩
/-! ### slices -/
abbrev TO2 := XK2 → Ds → Cells → (Option Int → Cells → Prop) → Prop
def upO (K : PySem.W.Frag) (S : Cells) (H : Hp) (Q : Option Int → Hp → Prop) : Option Int → Cells → Prop := fun b S' => ∀ H', Step K S H S' H' → Q b H'
structure P2 (X : Cx) (W : WX) (e : Option Expr) (T : TO2) : Prop where
  mono : ∀ x ds S Q Q', (∀ d S', Q d S' → Q' d S') → T x ds S Q → T x ds S Q'
  run : ∃ t, PO X e t ∧ ∀ x ds S σ H Q, Here X.K W x ds S σ H → T x ds S (upO X.K S H Q) → t σ H Q
def dNoP : TO2 := fun _ _ S Q => Q none S
def dPart (T : TE2) : TO2 := fun x ds S Q => T x ds S fun d S1 => ∃ i, d = .int i ∧ Q (some i) S1
theorem p_none : P2 X W none dNoP := ⟨fun _ _ _ _ _ h q => h _ _ q, _, po_none, fun x ds S σ H Q h q => q _ h.refl⟩
theorem p_some (h : E2 X W e Te) : P2 X W (some e) (dPart Te) := ⟨fun x ds S Q Q' hq p => h.mono x ds S _ _ (fun d S1 ⟨i, e, q⟩ => ⟨i, e, hq _ _ q⟩) p, by
  obtain ⟨t, p, r⟩ := h.run
  refine ⟨_, po_some p, fun x ds S σ H Q hh q => r x ds S σ H _ hh (h.mono x ds S _ _ (fun d S1 ⟨i, e, q⟩ v H1 s1 r1 => ?_) q)⟩
  subst e
  exact ⟨i, r1, q _ s1⟩⟩
abbrev QL := Dt → Option Int → Option Int → Cells → QE → Prop
structure L2' (X : Cx) (q : QL) : Prop where
  mono : ∀ d l h S Q Q', (∀ d S', Q d S' → Q' d S') → q d l h S Q → q d l h S Q'
  run : ∃ r, SlR X r ∧ ∀ d l h v S H Q, Wd X.K S H → Rp X.K (wo S H) d v → q d l h S (up X.K S H Q) → r v l h H Q
def dSl (q : QL) (T : TE2) (Tl Th : TO2) : TE2 := fun x ds S Q => T x ds S fun d S1 => Tl x ds S1 fun l S2 => Th x ds S2 fun h S3 => q d l h S3 Q
theorem e_slice {q : QL} {lo hi : Option Expr} {Tl Th : TO2} {p2 : Pos} (hq : L2' X q) (he : E2 X W e Te) (hl : P2 X W lo Tl) (hh : P2 X W hi Th) : E2 X W (.Subscript e (.Slice lo hi none p2) pos) (dSl q Te Tl Th) := ⟨fun x ds S Q Q' h p =>
    he.mono x ds S _ _ (fun d S1 p1 => hl.mono x ds S1 _ _ (fun l S2 p2 => hh.mono x ds S2 _ _ (fun u S3 p3 => hq.mono _ _ _ _ _ _ h p3) p2) p1) p, by
  obtain ⟨te, pe, re⟩ := he.run
  obtain ⟨tl, pl, rl⟩ := hl.run
  obtain ⟨th, ph, rh⟩ := hh.run
  obtain ⟨r, pr, rr⟩ := hq.run
  refine ⟨_, pe_slice pr pe pl ph, fun x ds S σ H Q h p => ?_⟩
  refine re x ds S σ H _ h (he.mono x ds S _ _ (fun d S1 p1 v H1 s1 r1 => ?_) p)
  refine rl x ds S1 σ H1 _ (h.step s1) (hl.mono x ds S1 _ _ (fun l S2 p2 H2 s2 => ?_) p1)
  refine rh x ds S2 σ H2 _ (h.step (s1.trans s2)) (hh.mono x ds S2 _ _ (fun u S3 p3 H3 s3 => ?_) p2)
  exact rr d l u v S3 H3 Q s3.wd (r1.mono (s2.trans s3).same) (hq.mono _ _ _ _ _ _ (fun z S4 q4 => q4.step (s1.trans (s2.trans s3))) p3)⟩
def cutG {α : Type} (xs : List α) (lo hi : Option Int) : List α := (xs.drop (HT.sIx xs.length 0 lo)).take (HT.sIx xs.length xs.length hi - HT.sIx xs.length 0 lo)
theorem cutG_rps {K : PySem.W.Frag} {I : Hp} {ds : List Dt} {xs : List V} (h : Rps K I ds xs) (lo hi : Option Int) : Rps K I (cutG ds lo hi) (cutV xs lo hi) := by
  unfold cutG cutV
  rw [h.length]
  exact Rps.take _ (Rps.drop _ h)
theorem cutG_whole {ds : List Dt} {lo hi : Option Int} (h : HT.sIx ds.length 0 lo = 0 ∧ HT.sIx ds.length ds.length hi = ds.length) : cutG ds lo hi = ds := by
  unfold cutG
  rw [h.1, h.2, List.drop_zero, Nat.sub_zero, List.take_length]
def qSlT : QL := fun d lo hi S Q => ∃ ds, asT d = some ds ∧ Q (.tup (cutG ds lo hi)) S
theorem s_tup : L2' X qSlT := ⟨fun d l h S Q Q' hq ⟨ds, e, q⟩ => ⟨ds, e, hq _ _ q⟩, _, sl_tupA, fun d l h v S H Q w r ⟨ds, e, q⟩ => by
  obtain ⟨a, xs, e1, h1, h2⟩ := asT_ok r e
  subst e1
  refine ⟨a, xs, rfl, h1, fun hw => ?_, fun _ p hp => newT.run ⟨Same.refl _, w⟩ (cutG_rps h2 l h) q hp⟩
  rw [h2.length] at hw
  rw [cutG_whole hw] at q
  refine q _ H ⟨Same.refl _, w⟩ ?_
  cases d with
  | tup es => cases (show some es = some ds from e); exact r
  | _ => cases e⟩
def qSlL : QL := fun d lo hi S Q => ∃ ds, asL S d = some ds ∧ newL (cutG ds lo hi) S Q
theorem s_lst : L2' X qSlL := ⟨fun d l h S Q Q' hq ⟨ds, e, q⟩ => ⟨ds, e, newL.mono hq q⟩, _, sl_list, fun d l h v S H Q w r ⟨ds, e, q⟩ => by
  obtain ⟨a, xs, e1, h1, h2⟩ := asL_ok w r e
  exact ⟨a, xs, e1, h1, fun p hp => newL.run ⟨Same.refl _, w⟩ (cutG_rps h2 l h) q hp⟩⟩
/-! ### + and * of tuples, lists -/
def qCatT : QO := fun d e S Q => ∃ ds es, asT d = some ds ∧ asT e = some es ∧ ds.length + es.length ≤ 100000 ∧ Q (.tup (ds ++ es)) S
theorem o_catT : O2 X (binaryOp .Add) qCatT := ⟨fun d e S Q Q' hq ⟨ds, es, h1, h2, h3, q⟩ => ⟨ds, es, h1, h2, h3, hq _ _ q⟩, _, op_catA, fun d e v u S H Q w r1 r2 ⟨ds, es, h1, h2, h3, q⟩ => by
  obtain ⟨a, xs, e1, k1, k2⟩ := asT_ok r1 h1
  obtain ⟨b, ys, e2, k3, k4⟩ := asT_ok r2 h2
  subst e1 e2
  refine ⟨a, b, xs, ys, rfl, rfl, k1, k3, by rw [k2.length, k4.length]; exact size_le h3, fun z => ?_, fun _ z => ?_, fun _ _ p hp => newT.run ⟨Same.refl _, w⟩ (k2.app k4) q hp⟩
  · have hd : ds = [] := by
      have := k2.length
      rw [z] at this
      exact List.eq_nil_of_length_eq_zero this.symm
    rw [hd, List.nil_append] at q
    refine q _ H ⟨Same.refl _, w⟩ ?_
    cases e with
    | tup _ => cases (show some _ = some es from h2); exact r2
    | _ => cases h2
  · have hd : es = [] := by
      have := k4.length
      rw [z] at this
      exact List.eq_nil_of_length_eq_zero this.symm
    rw [hd, List.append_nil] at q
    refine q _ H ⟨Same.refl _, w⟩ ?_
    cases d with
    | tup _ => cases (show some _ = some ds from h1); exact r1
    | _ => cases h1⟩
theorem Rps.rep {K : PySem.W.Frag} {I : Hp} {ds : List Dt} {xs : List V} (h : Rps K I ds xs) : ∀ k : Nat, Rps K I (List.replicate k ds).flatten (List.replicate k xs).flatten
  | 0 => rfl
  | k + 1 => by
    rw [List.replicate_succ, List.replicate_succ, List.flatten_cons, List.flatten_cons]
    exact h.app (Rps.rep h k)
def qRepT : QO := fun d e S Q => ∃ ds k, asT d = some ds ∧ e = .int k ∧ ds ≠ [] ∧ 2 ≤ k ∧ k ≤ 1000 ∧ ds.length ≤ 1000 ∧ Q (.tup (List.replicate k.toNat ds).flatten) S
theorem o_repT : O2 X (binaryOp .Mult) qRepT := ⟨fun d e S Q Q' hq ⟨ds, k, h1, h2, h3, h4, h5, h6, q⟩ => ⟨ds, k, h1, h2, h3, h4, h5, h6, hq _ _ q⟩, _, op_repT, fun d e v u S H Q w r1 r2 ⟨ds, k, h1, h2, h3, h4, h5, h6, q⟩ => by
  obtain ⟨a, xs, e1, k1, k2⟩ := asT_ok r1 h1
  subst h2
  refine ⟨a, k, xs, e1, r2, k1, fun z => h3 ?_, h4, h5, by rw [k2.length]; exact h6, fun p hp => newT.run ⟨Same.refl _, w⟩ (k2.rep k.toNat) q hp⟩
  have := k2.length
  rw [z] at this
  exact List.eq_nil_of_length_eq_zero this.symm⟩
/-! ### built-ins -/
def qAbs : QC := fun ds S Q => ∃ i, ds = [.int i] ∧ Q (.int (if i < 0 then -i else i)) S
theorem c_abs : C2 X (.builtin "abs") qAbs := ⟨fun ds S Q Q' hq ⟨i, e, q⟩ => ⟨i, e, hq _ _ q⟩, _, call_abs, fun ds vs S H Q w r ⟨i, e, q⟩ => by
  subst e
  obtain ⟨v, vs, e1, r1, r2⟩ := r
  cases (show vs = [] from r2)
  cases (show v = _ from r1)
  exact ⟨i, e1, q _ H ⟨Same.refl _, w⟩ rfl⟩⟩
theorem rps2 {K : PySem.W.Frag} {I : Hp} {a b : Dt} {vs : List V} (r : Rps K I [a, b] vs) : ∃ u v, vs = [u, v] ∧ Rp K I a u ∧ Rp K I b v := by
  obtain ⟨u, vs, e1, r1, r2⟩ := r
  obtain ⟨v, vs2, e2, r3, r4⟩ := r2
  cases (show vs2 = [] from r4)
  subst e2
  exact ⟨u, v, e1, r1, r3⟩
theorem rps1 {K : PySem.W.Frag} {I : Hp} {a : Dt} {vs : List V} (r : Rps K I [a] vs) : ∃ u, vs = [u] ∧ Rp K I a u := by
  obtain ⟨u, vs, e1, r1, r2⟩ := r
  cases (show vs = [] from r2)
  exact ⟨u, e1, r1⟩
def qMax2 : QC := fun ds S Q => ∃ i j, ds = [.int i, .int j] ∧ Q (.int (if j > i then j else i)) S
theorem c_max2 (hc : X.calm = true) : C2 X (.builtin "max") qMax2 := ⟨fun ds S Q Q' hq ⟨i, j, e, q⟩ => ⟨i, j, e, hq _ _ q⟩, _, call_max2 hc, fun ds vs S H Q w r ⟨i, j, e, q⟩ => by
  subst e
  obtain ⟨u, v, e1, r1, r2⟩ := rps2 r
  cases (show u = _ from r1)
  cases (show v = _ from r2)
  exact ⟨i, j, e1, q _ H ⟨Same.refl _, w⟩ rfl⟩⟩
def qMin2 : QC := fun ds S Q => ∃ i j, ds = [.int i, .int j] ∧ Q (.int (if j < i then j else i)) S
theorem c_min2 (hc : X.calm = true) : C2 X (.builtin "min") qMin2 := ⟨fun ds S Q Q' hq ⟨i, j, e, q⟩ => ⟨i, j, e, hq _ _ q⟩, _, call_min2 hc, fun ds vs S H Q w r ⟨i, j, e, q⟩ => by
  subst e
  obtain ⟨u, v, e1, r1, r2⟩ := rps2 r
  cases (show u = _ from r1)
  cases (show v = _ from r2)
  exact ⟨i, j, e1, q _ H ⟨Same.refl _, w⟩ rfl⟩⟩
def qLen : QC := fun ds S Q => ∃ d es, ds = [d] ∧ asQ S d = some es ∧ Q (.int es.length) S
theorem c_len : C2 X (.builtin "len") qLen := ⟨fun ds S Q Q' hq ⟨d, es, e, h, q⟩ => ⟨d, es, e, h, hq _ _ q⟩, _, call_len, fun ds vs S H Q w r ⟨d, es, e, h, q⟩ => by
  subst e
  obtain ⟨u, e1, r1⟩ := rps1 r
  obtain ⟨a, xs, e2, h1, h2⟩ := asQ_ok w r1 h
  subst e2
  refine ⟨.ref a, es.length, e1, ?_, q _ H ⟨Same.refl _, w⟩ rfl⟩
  rcases h1 with h1 | h1
  · exact .inl ⟨xs, h1, h2.length.symm⟩
  · exact .inr ⟨xs, h1, h2.length.symm⟩⟩
/-- tuple(xs) -/
def qTupOf : QC := fun ds S Q => ∃ d es, ds = [d] ∧ asQ S d = some es ∧ Q (.tup es) S
theorem c_tuple : C2 X (.type "tuple") qTupOf := ⟨fun ds S Q Q' hq ⟨d, es, e, h, q⟩ => ⟨d, es, e, h, hq _ _ q⟩, _, call_tuple_of, fun ds vs S H Q w r ⟨d, es, e, h, q⟩ => by
  subst e
  obtain ⟨u, e1, r1⟩ := rps1 r
  cases d with
  | tup fs =>
    obtain ⟨a, xs, e2, h1, h2⟩ := asT_ok r1 (show asT (.tup fs) = some es from h)
    subst e2
    refine ⟨a, xs, e1, .inr ⟨h1, q _ H ⟨Same.refl _, w⟩ ?_⟩⟩
    cases (show some fs = some es from h)
    exact r1
  | lst fs =>
    obtain ⟨a, xs, e2, h1, h2⟩ := asL_ok w r1 (show asL S (.lst fs) = some es from h)
    subst e2
    exact ⟨a, xs, e1, .inl ⟨h1, fun l hl => newT.run ⟨Same.refl _, w⟩ h2 q hl⟩⟩
  | ref c =>
    obtain ⟨a, xs, e2, h1, h2⟩ := asL_ok w r1 (show asL S (.ref c) = some es from h)
    subst e2
    exact ⟨a, xs, e1, .inl ⟨h1, fun l hl => newT.run ⟨Same.refl _, w⟩ h2 q hl⟩⟩
  | _ => cases h⟩
/-- list(xs) -/
def qLstOf : QC := fun ds S Q => ∃ d es, ds = [d] ∧ asQ S d = some es ∧ newL es S Q
theorem c_list : C2 X (.type "list") qLstOf := ⟨fun ds S Q Q' hq ⟨d, es, e, h, q⟩ => ⟨d, es, e, h, newL.mono hq q⟩, _, call_list_of, fun ds vs S H Q w r ⟨d, es, e, h, q⟩ => by
  subst e
  obtain ⟨u, e1, r1⟩ := rps1 r
  obtain ⟨a, xs, e2, h1, h2⟩ := asQ_ok w r1 h
  subst e2
  exact ⟨a, xs, e1, h1, fun l hl => newL.run ⟨Same.refl _, w⟩ h2 q hl⟩⟩
def qAll : QC := fun ds S Q => ∃ (d : Dt) (bs : List Bool), ds = [d] ∧ asL S d = some (bs.map Dt.bl) ∧ Q (.bl (bs.all id)) S
theorem c_all (hc : X.calm = true) : C2 X (.builtin "all") qAll := ⟨fun ds S Q Q' hq ⟨d, es, e, h, q⟩ => ⟨d, es, e, h, hq _ _ q⟩, _, cr_all hc, fun ds vs S H Q w r ⟨d, bs, e, h, q⟩ => by
  subst e
  obtain ⟨u, e1, r1⟩ := rps1 r
  obtain ⟨a, xs, e2, h1, h2⟩ := asL_ok w r1 h
  subst e2
  rw [h2.bls] at h1
  exact ⟨a, bs, e1, h1, q _ H ⟨Same.refl _, w⟩ rfl⟩⟩
def qSum : QC := fun ds S Q => ∃ (d : Dt) (ns : List Int), ds = [d] ∧ asL S d = some (ns.map Dt.int) ∧ Q (.int ns.sum) S
theorem c_sum (hc : X.calm = true) : C2 X (.builtin "sum") qSum := ⟨fun ds S Q Q' hq ⟨d, es, e, h, q⟩ => ⟨d, es, e, h, hq _ _ q⟩, _, cr_sum hc, fun ds vs S H Q w r ⟨d, bs, e, h, q⟩ => by
  subst e
  obtain ⟨u, e1, r1⟩ := rps1 r
  obtain ⟨a, xs, e2, h1, h2⟩ := asL_ok w r1 h
  subst e2
  rw [h2.ints] at h1
  exact ⟨a, bs, e1, h1, q _ H ⟨Same.refl _, w⟩ rfl⟩⟩
def qMaxL : QC := fun ds S Q => ∃ (d : Dt) (ns : List Int), ds = [d] ∧ asL S d = some (ns.map Dt.int) ∧ 0 < ns.length ∧ ∀ m, m ∈ ns → (∀ y, y ∈ ns → y ≤ m) → Q (.int m) S
theorem c_maxL (hc : X.calm = true) : C2 X (.builtin "max") qMaxL := ⟨fun ds S Q Q' hq ⟨d, es, e, h, h0, q⟩ => ⟨d, es, e, h, h0, fun m h1 h2 => hq _ _ (q m h1 h2)⟩, _, cr_max hc, fun ds vs S H Q w r ⟨d, bs, e, h, h0, q⟩ => by
  subst e
  obtain ⟨u, e1, r1⟩ := rps1 r
  obtain ⟨a, xs, e2, h1, h2⟩ := asL_ok w r1 h
  subst e2
  rw [h2.ints] at h1
  exact ⟨a, bs, e1, h1, h0, fun m k1 k2 => q m k1 k2 _ H ⟨Same.refl _, w⟩ rfl⟩⟩
def qMinL : QC := fun ds S Q => ∃ (d : Dt) (ns : List Int), ds = [d] ∧ asL S d = some (ns.map Dt.int) ∧ 0 < ns.length ∧ ∀ m, m ∈ ns → (∀ y, y ∈ ns → m ≤ y) → Q (.int m) S
theorem c_minL (hc : X.calm = true) : C2 X (.builtin "min") qMinL := ⟨fun ds S Q Q' hq ⟨d, es, e, h, h0, q⟩ => ⟨d, es, e, h, h0, fun m h1 h2 => hq _ _ (q m h1 h2)⟩, _, cr_min hc, fun ds vs S H Q w r ⟨d, bs, e, h, h0, q⟩ => by
  subst e
  obtain ⟨u, e1, r1⟩ := rps1 r
  obtain ⟨a, xs, e2, h1, h2⟩ := asL_ok w r1 h
  subst e2
  rw [h2.ints] at h1
  exact ⟨a, bs, e1, h1, h0, fun m k1 k2 => q m k1 k2 _ H ⟨Same.refl _, w⟩ rfl⟩⟩
/-! ### isinstance(e, T), T a built-in type -/
def tyName (S : Cells) : Dt → Option String
  | .non => some "NoneType" | .bl _ => some "bool" | .int _ => some "int" | .str _ => some "str" | .tup _ => some "tuple" | .lst _ => some "list"
  | .ref a => match S a with
    | some (.lst _) => some "list"
    | _ => none
theorem tyName_ok {K : PySem.W.Frag} {S : Cells} {H : Hp} {d : Dt} {v : V} {n : String} (w : Wd K S H) (r : Rp K (wo S H) d v) (h : tyName S d = some n) : TyX K H v (.type n) := by
  have lst : ∀ a xs, SqL K H a xs → TyX K H (.ref a) (.type "list") := fun a xs h => by
    rcases h with (h | ⟨o, h⟩) | ⟨o, its, m, h1, h2, _⟩
    · exact .base (.lst h)
    · exact .base (.frz h)
    · exact .kList h1 h2
  cases d with
  | non => cases (show v = _ from r); cases (show some _ = some n from h); exact .base .non
  | bl b => cases (show v = _ from r); cases (show some _ = some n from h); exact .base (.bl b)
  | int b => cases (show v = _ from r); cases (show some _ = some n from h); exact .base (.int b)
  | str b => cases (show v = _ from r); cases (show some _ = some n from h); exact .base (.str b)
  | tup ds =>
    cases (show some _ = some n from h)
    obtain ⟨a, xs, e, h1, h2⟩ := r
    subst e
    rcases sqT_mono wo_le h1 with (h | ⟨o, h⟩) | ⟨o, its, m, h1, h2, _⟩
    · exact .base (.tup h)
    · exact .fTuple h
    · exact .kTuple h1 h2
  | lst ds =>
    cases (show some _ = some n from h)
    obtain ⟨a, xs, e, h1, h2⟩ := r
    subst e
    exact lst a xs (sqL_mono wo_le h1)
  | ref a =>
    cases (show v = _ from r)
    have h' : (match S a with | some (.lst _) => some "list" | _ => none) = some n := h
    cases q : S a with
    | none => rw [q] at h'; cases h'
    | some c =>
      cases c with
      | ins C fs => rw [q] at h'; cases h'
      | lst es =>
        rw [q] at h'
        cases (show some _ = some n from h')
        obtain ⟨xs, h1, _⟩ := w a _ q
        exact lst a xs (SqL.of h1)
def isiD (S : Cells) (T : String) (d : Dt) : Option Bool := (tyName S d).bind fun n => kitB n T
def dIsi (T : String) (Te : TE2) : TE2 := fun x ds S Q => Te x ds S fun d S1 => ∃ b, isiD S1 T d = some b ∧ Q (.bl b) S1
theorem e_isi {T : String} {y : Str} {p q : Pos} (he : E2 X W e Te) (hm : X.mg "isinstance" = none) (hT : X.mg y = none) (hv : bootBuiltins y = some (.type T)) (hg : Gl X "isinstance" := by rfl) (hg2 : Gl X y := by rfl) (hn : y ≠ "__name__" := by decide) (hd : (y == ("__debug__" : Str)) = false := by decide)
    (he1 : starEach (e :: [.Name y q]) X.env = (false, eval e X.env) :: starEach [.Name y q] X.env := by rfl) (he2 : starEach [.Name y q] X.env = (false, eval (.Name y q) X.env) :: starEach [] X.env := by rfl) (hpl : (backTo pos (starEach [.Name y q] X.env)).any (·.1) = false := by rfl) :
    E2 X W (.Call (.Name "isinstance" p) [e, .Name y q] [] pos) (dIsi T Te) := ⟨fun x ds S Q Q' h p => he.mono x ds S _ _ (fun d S1 ⟨b, e, q⟩ => ⟨b, e, h _ _ q⟩) p, by
  obtain ⟨t, pt, rt⟩ := he.run
  refine ⟨_, pe_callB call_isi hg hm (by decide +kernel) (pa_cons pt (pa_cons (pe_bltn (v := .ty T) hg2 hT hv rfl hn hd) pa_nil he2) he1) (by decide) (by decide) he1 hpl, fun x ds S σ H Q h q => ?_⟩
  refine rt x ds S σ H _ h (he.mono x ds S _ _ (fun d S1 p1 v H1 s1 r1 => ?_) q)
  obtain ⟨b, e1, q1⟩ := p1
  unfold isiD at e1
  cases q2 : tyName S1 d with
  | none => rw [q2] at e1; cases e1
  | some n =>
    rw [q2] at e1
    exact ⟨v, .ty T, .type n, .type T, b, rfl, .ty T, tyName_ok s1.wd r1 q2, kit_ty e1, q1 _ _ s1 rfl⟩⟩
/-! ### methods -/
structure M2 (X : Cx) (T id : String) (q : Dt → List Dt → Cells → QE → Prop) : Prop where
  mono : ∀ d es S Q Q', (∀ d S', Q d S' → Q' d S') → q d es S Q → q d es S Q'
  run : ∃ r, MtR X id r ∧ ∀ d es v us S H Q, Wd X.K S H → Rp X.K (wo S H) d v → Rps X.K (wo S H) es us → q d es S (up X.K S H Q) → r v us H Q
def isLst (S : Cells) (d : Dt) : Prop := ∃ ds, asL S d = some ds
def dMt (q : Dt → List Dt → Cells → QE → Prop) (T : TE2) (TA : TA2) : TE2 := fun x ds S Q => T x ds S fun d S1 => isLst S1 d ∧ TA x ds S1 fun es S2 => q d es S2 Q
theorem e_mt {q : Dt → List Dt → Cells → QE → Prop} {o : Expr} {To : TE2} {name : Str} {apos cpos : Pos} {id : String} (slot : Slot "list" name id) (hty : typeOf (.builtin id) = pure (.type "method_descriptor")) (hm : M2 X "list" id q) (ho : E2 X W o To) (ha : A2 X W (e :: es) TA)
    (hbase : attributeBase o name X.env (eval o X.env) = eval o X.env := by rfl)
    (hfew : ((backTo cpos (starEach (e :: es) X.env)).all (fun x => !x.1) && (backToKw cpos (keywordEach [] X.env)).all (fun x => x.1.isSome)
      && decide ((e :: es).length + ([] : List Keyword).length + (if ([] : List Keyword).isEmpty then 0 else 1) < 30)) = true := by rfl)
    (hline : (apos.endLine == cpos.line) = true := by rfl) (hs : starEach (e :: es) X.env = (false, eval e X.env) :: starEach es X.env := by rfl) (hplain : (backTo cpos (starEach es X.env)).any (·.1) = false := by rfl) :
    E2 X W (.Call (.Attribute o name apos) (e :: es) [] cpos) (dMt q To TA) := ⟨fun x ds S Q Q' h p => ho.mono x ds S _ _ (fun d S1 ⟨l, p1⟩ => ⟨l, ha.mono x ds S1 _ _ (fun es S2 p2 => hm.mono _ _ _ _ _ h p2) p1⟩) p, by
  obtain ⟨t, pt, rt⟩ := ho.run
  obtain ⟨u, pu, ru⟩ := ha.run
  obtain ⟨r, pr, rr⟩ := hm.run
  refine ⟨_, pe_bm PySem.F.plainAttrs_list slot hty pr pt pu hbase hfew hline hs hplain, fun x ds S σ H Q h p => ?_⟩
  refine rt x ds S σ H _ h (ho.mono x ds S _ _ (fun d S1 ⟨⟨fs, hl⟩, p1⟩ v H1 s1 r1 => ?_) p)
  obtain ⟨a, xs, e1, h1, _⟩ := asL_ok s1.wd r1 hl
  subst e1
  refine ⟨.inl ⟨rfl, xs, h1⟩, ?_⟩
  refine ru x ds S1 σ H1 _ (h.step s1) (ha.mono x ds S1 _ _ (fun es S2 p2 us H2 s2 r2 => ?_) p1)
  exact rr d es _ us S2 H2 Q s2.wd (r1.mono s2.same) r2 (hm.mono _ _ _ _ _ (fun z S3 q3 => q3.step (s1.trans s2)) p2)⟩
theorem e_mt0 {q : Dt → List Dt → Cells → QE → Prop} {o : Expr} {To : TE2} {name : Str} {apos cpos : Pos} {id : String} (slot : Slot "list" name id) (hty : typeOf (.builtin id) = pure (.type "method_descriptor")) (hm : M2 X "list" id q) (ho : E2 X W o To)
    (hbase : attributeBase o name X.env (eval o X.env) = eval o X.env := by rfl) (hline : (apos.endLine == cpos.line) = true := by rfl) :
    E2 X W (.Call (.Attribute o name apos) [] [] cpos) (dMt q To dNil) := ⟨fun x ds S Q Q' h p => ho.mono x ds S _ _ (fun d S1 ⟨l, p1⟩ => ⟨l, hm.mono _ _ _ _ _ h p1⟩) p, by
  obtain ⟨t, pt, rt⟩ := ho.run
  obtain ⟨r, pr, rr⟩ := hm.run
  refine ⟨_, pe_bm0 PySem.F.plainAttrs_list slot hty pr pt hbase hline, fun x ds S σ H Q h p => ?_⟩
  refine rt x ds S σ H _ h (ho.mono x ds S _ _ (fun d S1 ⟨⟨fs, hl⟩, p1⟩ v H1 s1 r1 => ?_) p)
  obtain ⟨a, xs, e1, h1, _⟩ := asL_ok s1.wd r1 hl
  subst e1
  refine ⟨.inl ⟨rfl, xs, h1⟩, ?_⟩
  exact rr d [] _ [] S1 H1 Q s1.wd r1 rfl (hm.mono _ _ _ _ _ (fun z S3 q3 => q3.step s1) p1)⟩
def qAppend : Dt → List Dt → Cells → QE → Prop := fun d es S Q => ∃ a ds z, d = .ref a ∧ es = [z] ∧ S a = some (.lst ds) ∧ ds.length < 100000 ∧ Q .non (S.put a (.lst (ds ++ [z])))
theorem m_append : M2 X "list" "list.append" qAppend := ⟨fun d es S Q Q' hq ⟨a, ds, z, h1, h2, h3, h4, q⟩ => ⟨a, ds, z, h1, h2, h3, h4, hq _ _ q⟩, _, mt_append, fun d es v us S H Q w r rs ⟨a, ds, z, h1, h2, h3, h4, q⟩ => by
  subst h1 h2
  obtain ⟨u, e1, r1⟩ := rps1 rs
  obtain ⟨xs, k1, k2⟩ := w a _ h3
  have hS : S a ≠ none ∨ H a = none := .inl (by rw [h3]; intro z; cases z)
  refine ⟨a, xs, u, r, e1, k1, by rw [k2.length]; exact Nat.lt_of_lt_of_le h4 (by decide), q _ _ ⟨?_, put_wd w hS ⟨_, upd_same, k2.app (Rps.one r1)⟩⟩ rfl⟩
  rw [put_wo _ hS]
  exact Same.refl _⟩
def qPop : Dt → List Dt → Cells → QE → Prop := fun d es S Q => ∃ a ds z, d = .ref a ∧ es = [] ∧ S a = some (.lst ds) ∧ ds[ds.length - 1]? = some z ∧ Q z (S.put a (.lst ds.dropLast))
theorem Rps.dropLast {K : PySem.W.Frag} {I : Hp} {ds : List Dt} {xs : List V} (h : Rps K I ds xs) : Rps K I ds.dropLast xs.dropLast := by
  rw [List.dropLast_eq_take, List.dropLast_eq_take, h.length]
  exact Rps.take _ h
theorem m_pop : M2 X "list" "list.pop" qPop := ⟨fun d es S Q Q' hq ⟨a, ds, z, h1, h2, h3, h4, q⟩ => ⟨a, ds, z, h1, h2, h3, h4, hq _ _ q⟩, _, mt_pop, fun d es v us S H Q w r rs ⟨a, ds, z, h1, h2, h3, h4, q⟩ => by
  subst h1 h2
  cases (show us = [] from rs)
  obtain ⟨xs, k1, k2⟩ := w a _ h3
  have hS : S a ≠ none ∨ H a = none := .inl (by rw [h3]; intro z; cases z)
  rw [← k2.length] at h4
  have hwo := put_wo (H := H) (o := .lst xs.dropLast) (.lst ds.dropLast) hS
  obtain ⟨u, g1, g2⟩ := k2.get (i := xs.length - 1) h4
  refine ⟨a, xs, u, r, rfl, k1, g1, q _ _ ⟨?_, put_wd w hS ⟨_, upd_same, k2.dropLast⟩⟩ ?_⟩
  · rw [hwo]
    exact Same.refl _
  · rw [hwo]
    exact g2⟩
end
end Sc

namespace Sc
open PySem PySem.Spec PyProof.Rows L2
section
variable {X : Cx} {W : WX} {a b c e : Expr} {es : List Expr} {Ta Tb Tc Te : TE2} {Tt Tu : TT2} {TA : TA2} {pos : Pos} {st : Stmt} {rest body : List Stmt} {T U : TS2}
theorem Ends2.Le.withN {D D' : Ends2} (h : D.Le D') {n n' : Ds → Cells → Prop} (hn : ∀ ds S, n ds S → n' ds S) : Ends2.Le { D with nx := n } { D' with nx := n' } := ⟨hn, h.rt, h.bk, h.ct⟩
def dNext : TS2 := fun _ D ds S => D.nx ds S
def dSeq (T U : TS2) : TS2 := fun x D ds S => T x { D with nx := fun ds' S' => U x D ds' S' } ds S
theorem b_nil : B2 X W [] dNext := ⟨fun x ds S D D' h q => h.nx _ _ q, _, pss_nil, fun x ds S σ H D h q => q σ H h.refl h.rs⟩
theorem b_cons (h1 : S2 X W st T) (h2 : B2 X W rest U) : B2 X W (st :: rest) (dSeq T U) := ⟨fun x ds S D D' h q => h1.mono x ds S _ _ (h.withN fun ds' S' q' => h2.mono x ds' S' _ _ h q') q, by
  obtain ⟨t, p, r⟩ := h1.run
  obtain ⟨u, p', r'⟩ := h2.run
  refine ⟨_, pss_cons p p', fun x ds S σ H D h q => ?_⟩
  refine r x ds S σ H { D with nx := u D } h (h1.mono x ds S { upD X.K S H D with nx := fun ds' S' => U x (upD X.K S H D) ds' S' } _ ⟨fun ds' S' q' σ' H' s' rs' => ?_, fun _ _ q => q, fun _ _ q => q, fun _ _ q => q⟩ q)
  have h' := h.step s'
  exact r' x ds' S' σ' H' D ⟨rs', s'.wd, h'.xe⟩ (h2.mono x ds' S' _ _ (upD.step s') q')⟩
theorem b_one (h1 : S2 X W st T) : B2 X W [st] T := ⟨h1.mono, by
  obtain ⟨t, p, r⟩ := h1.run
  exact ⟨_, pss_one p, r⟩⟩
/-- code that the proof never comes to -/
def dNever : TS2 := fun _ _ _ _ => False
theorem s_never : S2 X W st dNever := ⟨fun _ _ _ _ _ _ q => q.elim, _, ps_never, fun _ _ _ _ _ _ _ q => q.elim⟩
theorem b_never {sts : List Stmt} : B2 X W sts dNever := ⟨fun _ _ _ _ _ _ q => q.elim, _, pss_never, fun _ _ _ _ _ _ _ q => q.elim⟩
theorem s_pass : S2 X W (.Pass pos) dNext := ⟨fun x ds S D D' h q => h.nx _ _ q, _, ps_pass, fun x ds S σ H D h q => q σ H h.refl h.rs⟩
def dDrop (Te : TE2) : TS2 := fun x D ds S => Te x ds S fun _ S1 => D.nx ds S1
theorem s_expr (he : E2 X W e Te) (hs : swapsWith e none pos.line X.env = pure false := by rfl) : S2 X W (.Expr e pos) (dDrop Te) := ⟨fun x ds S D D' h q => he.mono x ds S _ _ (fun _ S1 q => h.nx _ _ q) q, by
  obtain ⟨t, p, r⟩ := he.run
  exact ⟨_, ps_expr p hs, fun x ds S σ H D h q => r x ds S σ H _ h (he.mono x ds S _ _ (fun _ S1 q v H1 s1 r1 => q σ H1 s1 (h.rs.mono s1.same)) q)⟩⟩
def dRet (Te : TE2) : TS2 := fun x D ds S => Te x ds S D.rt
theorem s_ret (he : E2 X W e Te) : S2 X W (.Return (some e) pos) (dRet Te) := ⟨fun x ds S D D' h q => he.mono x ds S _ _ h.rt q, by
  obtain ⟨t, p, r⟩ := he.run
  exact ⟨_, ps_ret p, fun x ds S σ H D h q => r x ds S σ H _ h q⟩⟩
def dIfS (Tt : TT2) (T U : TS2) : TS2 := fun x D ds S => Tt x ds S fun k S1 => if k = true then T x D ds S1 else U x D ds S1
theorem s_if {pa pb : List Stmt} (hc : T2 X W c Tt) (ha : B2 X W pa T) (hb : B2 X W pb U) : S2 X W (.If c pa pb pos) (dIfS Tt T U) := ⟨fun x ds S D D' h q => hc.mono x ds S _ _ (fun k S1 q => ite_mono q (fun q => ha.mono x ds S1 _ _ h q) (fun q => hb.mono x ds S1 _ _ h q)) q, by
  obtain ⟨tc, pc, rc⟩ := hc.run
  obtain ⟨ta, pa, ra⟩ := ha.run
  obtain ⟨tb, pb, rb⟩ := hb.run
  refine ⟨_, ps_if pc pa pb, fun x ds S σ H D h q => rc x ds S σ H _ h (hc.mono x ds S _ _ (fun k S1 q H1 s1 => ?_) q)⟩
  exact ite_mono q (fun q => ra x ds S1 σ H1 D (h.step s1) (ha.mono x ds S1 _ _ (upD.step s1) q)) (fun q => rb x ds S1 σ H1 D (h.step s1) (hb.mono x ds S1 _ _ (upD.step s1) q))⟩
/-! ### stores -/
def dSet (i : Nat) (Te : TE2) : TS2 := fun x D ds S => Te x ds S fun d S1 => D.nx (ds.set i (some d)) S1
theorem s_set (i : Nat) {y : Str} {p : Pos} (hN : X.N.Nodup) (he : E2 X W e Te) (hi : X.N[i]? = some y := by rfl) (hx : Loc X.env.scope y := by first | exact Or.inl rfl | exact Or.inr rfl) (hs : swapsWith e (some (.Name y p)) pos.line X.env = pure false := by rfl)
    (hf : X.fn y = true ∨ X.env.scope.names.lookup y = some .local := by first | exact .inl rfl | exact .inr rfl) : S2 X W (.Assign [.Name y p] e pos) (dSet i Te) := ⟨fun x ds S D D' h q => he.mono x ds S _ _ (fun _ S1 q => h.nx _ _ q) q, by
  obtain ⟨t, p, r⟩ := he.run
  exact ⟨_, ps_set hN hi hx p hs hf, fun x ds S σ H D h q => r x ds S σ H _ h (he.mono x ds S _ _ (fun d S1 q v H1 s1 r1 => q _ H1 s1 ((h.rs.mono s1.same).set r1)) q)⟩⟩
/-- x op= e -/
def dAug (i : Nat) (q : QO) (Te : TE2) : TS2 := fun x D ds S => ∃ d, ds[i]? = some (some d) ∧ Te x ds S fun e S1 => q d e S1 fun z S2 => D.nx (ds.set i (some z)) S2
theorem s_aug (i : Nat) {y : Str} {p : Pos} {op : Operator} {q : QO} (hN : X.N.Nodup) (ho : O2 X (inplaceOp op) q) (he : E2 X W e Te) (hi : X.N[i]? = some y := by rfl) (hx : Loc X.env.scope y := by first | exact Or.inl rfl | exact Or.inr rfl)
    (hf : X.fn y = true ∨ X.env.scope.names.lookup y = some .local := by first | exact .inl rfl | exact .inr rfl) : S2 X W (.AugAssign (.Name y p) op e pos) (dAug i q Te) := ⟨fun x ds S D D' h ⟨d, e1, q1⟩ => ⟨d, e1, he.mono x ds S _ _ (fun z S1 q => ho.mono _ _ _ _ _ (fun _ _ q => h.nx _ _ q) q) q1⟩, by
  obtain ⟨t, p, r⟩ := he.run
  obtain ⟨ro, po, rr⟩ := ho.run
  refine ⟨_, ps_aug (ti := ro) hN hi hx p (fun pins s σ H x y v u Q I rx ry q => po pins s σ H x y v u Q I rx ry q) hf, fun x ds S σ H D h ⟨d, e1, q1⟩ => ?_⟩
  obtain ⟨v, k1, k2⟩ := h.rs.2 i d e1
  refine ⟨v, k1, r x ds S σ H _ h (he.mono x ds S _ _ (fun z S1 q u H1 s1 r1 => ?_) q1)⟩
  exact rr d z v u S1 H1 _ s1.wd (k2.mono s1.same) r1 (ho.mono _ _ _ _ _ (fun f S2 q2 v2 H2 s2 r2 => q2 _ H2 (s1.trans s2) ((h.rs.mono (s1.trans s2).same).set r2)) q)⟩
theorem o_iadd : O2 X (inplaceOp .Add) (qI0 fun i j => .int (i + j)) := o_I0 iop_add
theorem o_isub : O2 X (inplaceOp .Sub) (qI0 fun i j => .int (i - j)) := o_I0 iop_sub
theorem o_imul : O2 X (inplaceOp .Mult) (qI CMul fun i j => .int (i * j)) := o_I iop_mul
/-- a, b = e1, e2 -/
def dPar (i j : Nat) (T : TA2) : TS2 := fun x D ds S => T x ds S fun es S1 => ∃ d e, es = [d, e] ∧ D.nx ((ds.set i (some d)).set j (some e)) S1
theorem s_par (i j : Nat) {y z : Str} {py pz pt : Pos} {kt k2 pt2} (hc : X.calm = true) (hN : X.N.Nodup) (ha : A2 X W [a, b] TA) (hi : X.N[i]? = some y := by rfl) (hj : X.N[j]? = some z := by rfl) (hij : i ≠ j := by decide)
    (hy : X.env.scope.names.lookup y = some .local := by rfl) (hz : X.env.scope.names.lookup z = some .local := by rfl)
    (hw : swappedStores [.Tuple [.Name y py, .Name z pz] kt pt] (.Tuple [a, b] k2 pt2) X.env = pure (some [y, z]) := by rfl)
    (hs : swapsWithSole [.Tuple [.Name y py, .Name z pz] kt pt] (.Tuple [a, b] k2 pt2) pos.line X.env = pure false := by rfl) :
    S2 X W (.Assign [.Tuple [.Name y py, .Name z pz] kt pt] (.Tuple [a, b] k2 pt2) pos) (dPar i j TA) := ⟨fun x ds S D D' h q => ha.mono x ds S _ _ (fun _ S1 ⟨d, e, e1, q⟩ => ⟨d, e, e1, h.nx _ _ q⟩) q, by
  obtain ⟨t, p, r⟩ := ha.run
  refine ⟨_, ps_par hc hN hi hj hij hy hz p hw hs, fun x ds S σ H D h q => r x ds S σ H _ h (ha.mono x ds S _ _ (fun es S1 ⟨d, e, e1, q⟩ vs H1 s1 r1 => ?_) q)⟩
  subst e1
  obtain ⟨u, v, e2, r2, r3⟩ := rps2 r1
  exact ⟨u, v, e2, q _ H1 s1 (((h.rs.mono s1.same).set r2).set r3)⟩⟩
def dPar3 (i j l : Nat) (T : TA2) : TS2 := fun x D ds S => T x ds S fun es S1 => ∃ d e f, es = [d, e, f] ∧ D.nx (((ds.set i (some d)).set j (some e)).set l (some f)) S1
theorem s_par3 (i j l : Nat) {y z u : Str} {py pz pu pt : Pos} {kt k2 pt2} (hc : X.calm = true) (hN : X.N.Nodup) (ha : A2 X W [a, b, c] TA) (hi : X.N[i]? = some y := by rfl) (hj : X.N[j]? = some z := by rfl) (hl : X.N[l]? = some u := by rfl) (hij : i ≠ j := by decide) (hil : i ≠ l := by decide) (hjl : j ≠ l := by decide)
    (hy : X.env.scope.names.lookup y = some .local := by rfl) (hz : X.env.scope.names.lookup z = some .local := by rfl) (hu : X.env.scope.names.lookup u = some .local := by rfl)
    (hw : swappedStores [.Tuple [.Name y py, .Name z pz, .Name u pu] kt pt] (.Tuple [a, b, c] k2 pt2) X.env = pure (some [y, z, u]) := by rfl)
    (hs : swapsWithSole [.Tuple [.Name y py, .Name z pz, .Name u pu] kt pt] (.Tuple [a, b, c] k2 pt2) pos.line X.env = pure false := by rfl) :
    S2 X W (.Assign [.Tuple [.Name y py, .Name z pz, .Name u pu] kt pt] (.Tuple [a, b, c] k2 pt2) pos) (dPar3 i j l TA) := ⟨fun x ds S D D' h q => ha.mono x ds S _ _ (fun _ S1 ⟨d, e, f, e1, q⟩ => ⟨d, e, f, e1, h.nx _ _ q⟩) q, by
  obtain ⟨t, p, r⟩ := ha.run
  refine ⟨_, ps_par3 hc hN hi hj hl hij hil hjl hy hz hu p hw hs, fun x ds S σ H D h q => r x ds S σ H _ h (ha.mono x ds S _ _ (fun es S1 ⟨d, e, f, e1, q⟩ vs H1 s1 r1 => ?_) q)⟩
  subst e1
  obtain ⟨u1, us, e2, r2, r3⟩ := r1
  obtain ⟨u2, u3, e4, r4, r5⟩ := rps2 r3
  subst e4
  exact ⟨u1, u2, u3, e2, q _ H1 s1 ((((h.rs.mono s1.same).set r2).set r4).set r5)⟩⟩
/-! ### targets -/
abbrev TG2 := Dt → Ds → Cells → (Ds → Cells → Prop) → Prop
structure G2 (X : Cx) (W : WX) (tg : Expr) (T : TG2) : Prop where
  mono : ∀ d ds S Q Q', (∀ d S', Q d S' → Q' d S') → T d ds S Q → T d ds S Q'
  run : ∃ t, PG X tg t ∧ ∀ d v x ds S σ H Q, Here X.K W x ds S σ H → Rp X.K (wo S H) d v → T d ds S (upS X.K S H Q) → t v σ H Q
abbrev TGs2 := List Dt → Ds → Cells → (Ds → Cells → Prop) → Prop
structure Gs2 (X : Cx) (W : WX) (ts : List Expr) (T : TGs2) : Prop where
  mono : ∀ d ds S Q Q', (∀ d S', Q d S' → Q' d S') → T d ds S Q → T d ds S Q'
  run : ∃ t, PGs X ts t ∧ ∀ d v x ds S σ H Q, Here X.K W x ds S σ H → Rps X.K (wo S H) d v → T d ds S (upS X.K S H Q) → t v σ H Q
def kName (i : Nat) : TG2 := fun d ds S Q => Q (ds.set i (some d)) S
theorem g_name (i : Nat) {y : Str} (hN : X.N.Nodup) (hi : X.N[i]? = some y := by rfl) (hx : Loc X.env.scope y := by first | exact Or.inl rfl | exact Or.inr rfl) (hf : X.fn y = true ∨ X.env.scope.names.lookup y = some .local := by first | exact .inl rfl | exact .inr rfl) :
    G2 X W (.Name y pos) (kName i) := ⟨fun d ds S Q Q' h q => h _ _ q, _, pg_name hN hi hx hf, fun d v x ds S σ H Q h r q => q _ H h.refl (h.rs.set r)⟩
def kNil : TGs2 := fun es ds S Q => es = [] ∧ Q ds S
def kCons (T : TG2) (U : TGs2) : TGs2 := fun es ds S Q => ∃ d r, es = d :: r ∧ T d ds S fun ds1 S1 => U r ds1 S1 Q
theorem gs_nil : Gs2 X W [] kNil := ⟨fun d ds S Q Q' h ⟨e, q⟩ => ⟨e, h _ _ q⟩, _, pgs_nil, fun d v x ds S σ H Q h r ⟨e, q⟩ => by
  subst e
  exact ⟨r, q _ H h.refl h.rs⟩⟩
theorem gs_cons {T : TG2} {U : TGs2} (h1 : G2 X W e T) (h2 : Gs2 X W es U) (hs : (assignEach (e :: es) X.env).map (·.2) = assign e X.env :: (assignEach es X.env).map (·.2) := by rfl) : Gs2 X W (e :: es) (kCons T U) := ⟨fun d ds S Q Q' h ⟨d1, r, e, q⟩ =>
    ⟨d1, r, e, h1.mono _ _ _ _ _ (fun ds1 S1 q1 => h2.mono _ _ _ _ _ h q1) q⟩, by
  obtain ⟨t, p, r⟩ := h1.run
  obtain ⟨u, p', r'⟩ := h2.run
  refine ⟨_, pgs_cons p p' hs, fun d v x ds S σ H Q h rs ⟨d1, r1, e, q⟩ => ?_⟩
  subst e
  obtain ⟨v1, vs, e1, k1, k2⟩ := rs
  refine ⟨v1, vs, e1, r d1 v1 x ds S σ H _ h k1 (h1.mono _ _ _ _ _ (fun ds1 S1 q1 σ1 H1 s1 rs1 => ?_) q)⟩
  exact r' r1 vs x ds1 S1 σ1 H1 Q ⟨rs1, s1.wd, (h.step s1).xe⟩ (k2.mono s1.same) (h2.mono _ _ _ _ _ (fun ds2 S2 q2 => q2.step s1) q1)⟩
def kTup (n : Nat) (T : TGs2) : TG2 := fun d ds S Q => ∃ es, asT d = some es ∧ es.length = n ∧ T es ds S Q
theorem g_tup {k n : Nat} {T : TGs2} (hc : X.calm = true) (h : Gs2 X W es T) (hn : (assignEach es X.env).length = n := by rfl) (hst : (assignEach es X.env).findIdx? (·.1) = none := by rfl) : G2 X W (.Tuple es k pos) (kTup n T) := ⟨fun d ds S Q Q' hq ⟨fs, e, l, q⟩ => ⟨fs, e, l, h.mono _ _ _ _ _ hq q⟩, by
  obtain ⟨t, p, r⟩ := h.run
  refine ⟨_, pg_tup hc p hn hst, fun d v x ds S σ H Q hh rv ⟨fs, e, l, q⟩ => ?_⟩
  obtain ⟨a, xs, e1, k1, k2⟩ := asT_ok rv e
  exact ⟨a, xs, e1, k1, by rw [k2.length]; exact l, r fs xs x ds S σ H Q hh k2 q⟩⟩
/-- target = value -/
def dAsg (Te : TE2) (G : TG2) : TS2 := fun x D ds S => Te x ds S fun d S1 => G d ds S1 D.nx
theorem s_asg {tg : Expr} {G : TG2} (he : E2 X W e Te) (hg : G2 X W tg G) (hs : swapsWithSole [tg] e pos.line X.env = pure false := by rfl) (hw : swappedStores [tg] e X.env = pure none := by rfl)
    (h1 : (assignEach [tg] X.env).map (·.2) = [assign tg X.env] := by rfl) : S2 X W (.Assign [tg] e pos) (dAsg Te G) := ⟨fun x ds S D D' h q => he.mono x ds S _ _ (fun d S1 q => hg.mono _ _ _ _ _ h.nx q) q, by
  obtain ⟨t, p, r⟩ := he.run
  obtain ⟨g, pg, rg⟩ := hg.run
  refine ⟨_, ps_asg p pg hs hw h1, fun x ds S σ H D h q => r x ds S σ H _ h (he.mono x ds S _ _ (fun d S1 q v H1 s1 r1 => ?_) q)⟩
  exact rg d v x ds S1 σ H1 _ (h.step s1) r1 (hg.mono _ _ _ _ _ (fun ds2 S2 q2 => q2.step s1) q)⟩
/-- o[i] = v, o a list that may change -/
def kSub (Ta Tb : TE2) : XK2 → TG2 := fun x d ds S Q => Ta x ds S fun o S1 => Tb x ds S1 fun i S2 => ∃ p k j fs, o = .ref p ∧ i = .int k ∧ S2 p = some (.lst fs) ∧ ixN fs.length k = some j ∧ Q ds (S2.put p (.lst (fs.set j d)))
def dStore (Te Ta Tb : TE2) : TS2 := fun x D ds S => Te x ds S fun d S1 => kSub Ta Tb x d ds S1 D.nx
theorem s_store (he : E2 X W e Te) (ha : E2 X W a Ta) (hb : E2 X W b Tb)
    (hset : ∀ v, assign (.Subscript a b pos) X.env v = (do
      let ov ← holding [v] (eval a X.env)
      let iv ← holding [v, ov] (eval b X.env)
      standAt pos
      holding [v, ov, iv] (setItem ov iv v)
      release [v, ov, iv] []) := by intro _; rfl) {pos2 : Pos}
    (hs : swapsWithSole [.Subscript a b pos] e pos2.line X.env = pure false := by rfl) (hw : swappedStores [.Subscript a b pos] e X.env = pure none := by rfl)
    (h1 : (assignEach [.Subscript a b pos] X.env).map (·.2) = [assign (.Subscript a b pos) X.env] := by rfl) : S2 X W (.Assign [.Subscript a b pos] e pos2) (dStore Te Ta Tb) := ⟨fun x ds S D D' h q => he.mono x ds S _ _ (fun d S1 q =>
    ha.mono x ds S1 _ _ (fun o S2 q => hb.mono x ds S2 _ _ (fun i S3 ⟨p, k, j, fs, e1, e2, e3, e4, q⟩ => ⟨p, k, j, fs, e1, e2, e3, e4, h.nx _ _ q⟩) q) q) q, by
  obtain ⟨te, pe, re⟩ := he.run
  obtain ⟨ta, pa, ra⟩ := ha.run
  obtain ⟨tb, pb, rb⟩ := hb.run
  refine ⟨_, ps_asg pe (pg_sub pa pb set_list hset) hs hw h1, fun x ds S σ H D h q => ?_⟩
  refine re x ds S σ H _ h (he.mono x ds S _ _ (fun d S1 q v H1 s1 r1 => ?_) q)
  refine ra x ds S1 σ H1 _ (h.step s1) (ha.mono x ds S1 _ _ (fun o S2 q ov H2 s2 r2 => ?_) q)
  refine rb x ds S2 σ H2 _ (h.step (s1.trans s2)) (hb.mono x ds S2 _ _ (fun i S3 ⟨p, k, j, fs, e1, e2, e3, e4, q5⟩ iv H3 s3 r3 => ?_) q)
  subst e1 e2
  obtain ⟨xs, k1, k2⟩ := s3.wd p _ e3
  have hS : S3 p ≠ none ∨ H3 p = none := .inl (by rw [e3]; intro z; cases z)
  have rd := r1.mono (s2.trans s3).same
  refine ⟨p, xs, k, j, r2, r3, k1, by rw [k2.length]; exact e4, ?_⟩
  have w0 := put_wo (H := H3) (o := .lst (xs.set j v)) (.lst (fs.set j d)) hS
  have s4 : Step X.K S3 H3 (S3.put p (.lst (fs.set j d))) (upd H3 p (.lst (xs.set j v))) := ⟨by rw [w0]; exact Same.refl _, put_wd s3.wd hS ⟨_, upd_same, k2.set j rd⟩⟩
  exact q5 σ _ (s1.trans (s2.trans (s3.trans s4))) (h.rs.mono (s1.trans (s2.trans (s3.trans s4))).same)⟩
/-! ### what is walked -/
abbrev TI2 := XK2 → Ds → Cells → (List Dt → Cells → Prop) → Prop
/-- the iterator J gives the items, in every later world -/
def Yields (K : PySem.W.Frag) (J : It) (items : List Dt) (S1 : Cells) (H1 : Hp) : Prop := ∀ S H, Step K S1 H1 S H →
  (∀ i, i < items.length → J.go i H) ∧ (∀ i, items.length ≤ i → J.stop i H) ∧ ∀ i v H' d, J.yld i H v H' → items[i]? = some d → Step K S H S H' ∧ Rp K (wo S H') d v
structure J2 (X : Cx) (W : WX) (tg iter : Expr) (T : TI2) : Prop where
  mono : ∀ x ds S Q Q', (∀ d S', Q d S' → Q' d S') → T x ds S Q → T x ds S Q'
  run : ∃ wi, PI X tg iter wi ∧ ∀ x ds S σ H R, Here X.K W x ds S σ H → T x ds S (fun items S1 => ∀ H1 J, Step X.K S H S1 H1 → Yields X.K J items S1 H1 → R J H1) → wi σ H R
/-- a tuple, a list that does not change -/
def dIt (Te : TE2) : TI2 := fun x ds S Q => Te x ds S fun d S1 => ∃ es, d = .tup es ∧ Q es S1
def dItL (Te : TE2) : TI2 := fun x ds S Q => Te x ds S fun d S1 => ∃ es, d = .lst es ∧ Q es S1
theorem j_tup {tg : Expr} (he : E2 X W e Te) : J2 X W tg e (dIt Te) := ⟨fun x ds S Q Q' h q => he.mono x ds S _ _ (fun d S1 ⟨es, e, q⟩ => ⟨es, e, h _ _ q⟩) q, by
  obtain ⟨t, p, r⟩ := he.run
  refine ⟨_, pi_tup p, fun x ds S σ H R h q => r x ds S σ H _ h (he.mono x ds S _ _ (fun d S1 ⟨es, e, q⟩ v H1 s1 r1 => ?_) q)⟩
  subst e
  obtain ⟨a, xs, e1, k1, k2⟩ := r1
  have g : SqT X.K H1 a xs := sqT_mono wo_le k1
  refine ⟨a, e1, ⟨xs, g⟩, q H1 _ s1 fun S2 H2 s2 => ?_⟩
  have g2 : SqT X.K H2 a xs := sqT_mono wo_le (sqT_mono s2.same k1)
  have kk := k2.mono s2.same
  refine ⟨fun i hi => ?_, fun i hi => ⟨xs, g2, by rw [k2.length]; exact hi⟩, fun i v H' d hy hd => ?_⟩
  · have hi' : i < xs.length := by rw [k2.length]; exact hi
    exact ⟨xs, xs[i], g2, List.getElem?_eq_getElem hi'⟩
  · obtain ⟨e2, hv⟩ := hy
    subst e2
    obtain ⟨u, k3, k4⟩ := kk.get hd
    have := (hv xs g2).symm.trans k3
    cases this
    exact ⟨⟨Same.refl _, s2.wd⟩, k4⟩⟩
theorem j_lst {tg : Expr} (he : E2 X W e Te) : J2 X W tg e (dItL Te) := ⟨fun x ds S Q Q' h q => he.mono x ds S _ _ (fun d S1 ⟨es, e, q⟩ => ⟨es, e, h _ _ q⟩) q, by
  obtain ⟨t, p, r⟩ := he.run
  refine ⟨_, pi_list p, fun x ds S σ H R h q => r x ds S σ H _ h (he.mono x ds S _ _ (fun d S1 ⟨es, e, q⟩ v H1 s1 r1 => ?_) q)⟩
  subst e
  obtain ⟨a, xs, e1, k1, k2⟩ := r1
  have g : SqL X.K H1 a xs := sqL_mono wo_le k1
  refine ⟨a, e1, ⟨xs, g⟩, q H1 _ s1 fun S2 H2 s2 => ?_⟩
  have g2 : SqL X.K H2 a xs := sqL_mono wo_le (sqL_mono s2.same k1)
  have kk := k2.mono s2.same
  refine ⟨fun i hi => ?_, fun i hi => ⟨xs, g2, by rw [k2.length]; exact hi⟩, fun i v H' d hy hd => ?_⟩
  · have hi' : i < xs.length := by rw [k2.length]; exact hi
    exact ⟨xs, xs[i], g2, List.getElem?_eq_getElem hi'⟩
  · obtain ⟨e2, hv⟩ := hy
    subst e2
    obtain ⟨u, k3, k4⟩ := kk.get hd
    have := (hv xs g2).symm.trans k3
    cases this
    exact ⟨⟨Same.refl _, s2.wd⟩, k4⟩⟩
/-- range(n), range(a, b) -/
def rng (lo : Int) (n : Nat) : List Dt := (List.range n).map fun (i : Nat) => .int (lo + (i : Int))
theorem rng_len {lo : Int} {n : Nat} : (rng lo n).length = n := by simp [rng]
theorem rng_get {lo : Int} {n i : Nat} {d : Dt} (h : (rng lo n)[i]? = some d) : d = .int (lo + (i : Int)) := by
  have hi : i < n := by
    have := (List.getElem?_eq_some_iff.mp h).1
    rw [rng_len] at this
    exact this
  unfold rng at h
  rw [List.getElem?_map, List.getElem?_range hi] at h
  exact (Option.some.inj h).symm
theorem yields_rng {K : PySem.W.Frag} {lo : Int} {n : Nat} {S1 : Cells} {H1 : Hp} : Yields K (Itr lo n) (rng lo n) S1 H1 := fun S H s => by
  refine ⟨fun i hi => by rw [rng_len] at hi; exact hi, fun i hi => by rw [rng_len] at hi; exact hi, fun i v H' d hy hd => ?_⟩
  obtain ⟨e, hv⟩ := hy
  subst e
  rw [rng_get hd]
  exact ⟨⟨Same.refl _, s.wd⟩, hv⟩
def dRng1 (Te : TE2) : TI2 := fun x ds S Q => Te x ds S fun d S1 => ∃ n, d = .int n ∧ -1000000000000000000 ≤ n ∧ n < 1000000000000000000 ∧ Q (rng 0 n.toNat) S1
theorem j_range1 {tg : Expr} {p : Pos} (he : E2 X W e Te) (hm : X.mg "range" = none) (hg : Gl X "range" := by rfl) (hs : starEach [e] X.env = [(false, eval e X.env)] := by rfl) : J2 X W tg (.Call (.Name "range" p) [e] [] pos) (dRng1 Te) := ⟨fun x ds S Q Q' h q =>
    he.mono x ds S _ _ (fun d S1 ⟨n, e, h1, h2, q⟩ => ⟨n, e, h1, h2, h _ _ q⟩) q, by
  obtain ⟨t, p, r⟩ := he.run
  refine ⟨_, pi_range1 hg hm (pa_cons p pa_nil (by rw [hs]; rfl)) hs, fun x ds S σ H R h q => r x ds S σ H _ h (he.mono x ds S _ _ (fun d S1 ⟨n, e, h1, h2, q⟩ v H1 s1 r1 => ?_) q)⟩
  subst e
  cases (show v = _ from r1)
  exact ⟨n, rfl, by omega, by omega, q H1 _ s1 yields_rng⟩⟩
def dRng2 (Ta Tb : TE2) : TI2 := fun x ds S Q => Ta x ds S fun d S1 => Tb x ds S1 fun e S2 => ∃ i j, d = .int i ∧ e = .int j ∧ (-1000000000000000000 ≤ i ∧ i < 1000000000000000000 ∧ -1000000000000000000 ≤ j ∧ j < 1000000000000000000) ∧ Q (rng i (j - i).toNat) S2
theorem j_range2 {tg : Expr} {p : Pos} (ha : E2 X W a Ta) (hb : E2 X W b Tb) (hm : X.mg "range" = none) (hg : Gl X "range" := by rfl) (hs : starEach [a, b] X.env = [(false, eval a X.env), (false, eval b X.env)] := by rfl) (hs2 : starEach [b] X.env = [(false, eval b X.env)] := by rfl) :
    J2 X W tg (.Call (.Name "range" p) [a, b] [] pos) (dRng2 Ta Tb) := ⟨fun x ds S Q Q' h q =>
    ha.mono x ds S _ _ (fun d S1 q => hb.mono x ds S1 _ _ (fun e S2 ⟨i, j, e1, e2, h1, q⟩ => ⟨i, j, e1, e2, h1, h _ _ q⟩) q) q, by
  obtain ⟨t, p, r⟩ := ha.run
  obtain ⟨t', p', r'⟩ := hb.run
  refine ⟨_, pi_range2 hg hm (pa_cons p (pa_cons p' pa_nil (by rw [hs2]; rfl)) (by rw [hs, hs2])) hs hs2, fun x ds S σ H R h q => ?_⟩
  refine r x ds S σ H _ h (ha.mono x ds S _ _ (fun d S1 q v H1 s1 r1 => ?_) q)
  refine r' x ds S1 σ H1 _ (h.step s1) (hb.mono x ds S1 _ _ (fun e S2 ⟨i, j, e1, e2, h1, q5⟩ u H2 s2 r2 => ?_) q)
  subst e1 e2
  cases (show v = _ from r1)
  cases (show u = _ from r2)
  exact ⟨i, j, rfl, by omega, q5 H2 _ (s1.trans s2) yields_rng⟩⟩
/-! ### for -/
def dLoop (G : TG2) (B : TS2) (x : XK2) (D : Ends2) : List Dt → Ds → Cells → Prop
  | [], ds, S => D.nx ds S
  | d :: r, ds, S => G d ds S fun ds1 S1 => B x ⟨dLoop G B x D r, D.rt, D.nx, dLoop G B x D r⟩ ds1 S1
def dFor (I : TI2) (G : TG2) (B : TS2) : TS2 := fun x D ds S => I x ds S fun items S1 => dLoop G B x D items ds S1
theorem dLoop.mono {G : TG2} {B : TS2} (gm : ∀ d ds S Q Q', (∀ d S', Q d S' → Q' d S') → G d ds S Q → G d ds S Q') (bm : ∀ x ds S D D', Ends2.Le D D' → B x D ds S → B x D' ds S) {x : XK2} {D D' : Ends2} (h : D.Le D') :
    ∀ items ds S, dLoop G B x D items ds S → dLoop G B x D' items ds S
  | [], ds, S, q => h.nx _ _ q
  | d :: r, ds, S, q => gm _ _ _ _ _ (fun ds1 S1 q1 => bm _ _ _ ⟨dLoop G B x D r, D.rt, D.nx, dLoop G B x D r⟩ _ ⟨fun ds2 S2 q2 => dLoop.mono gm bm h r ds2 S2 q2, h.rt, h.nx, fun ds2 S2 q2 => dLoop.mono gm bm h r ds2 S2 q2⟩ q1) q
theorem s_for {tg iter : Expr} {I : TI2} {G : TG2} (hp : PassesOwn (model X.prog X.w) X.A X.env X.xe) (hc : X.calm = true) (hi : J2 X W tg iter I) (hg : G2 X W tg G) (hb : B2 X W body T) (hs : ∀ x, foldedSetIterable iter X.env x = pure x := by intro _; rfl) :
    S2 X W (.For tg iter body [] pos) (dFor I G T) := ⟨fun x ds S D D' h q => hi.mono x ds S _ _ (fun items S1 q => dLoop.mono hg.mono hb.mono h items ds S1 q) q, by
  obtain ⟨wi, pi, ri⟩ := hi.run
  obtain ⟨g, pg, rg⟩ := hg.run
  obtain ⟨t, pb, rb⟩ := hb.run
  refine ⟨_, ps_for hp hc pi pg pb hs, fun x ds S σ H D h q => ?_⟩
  refine ri x ds S σ H _ h (hi.mono x ds S _ _ (fun items S1 q H1 J s1 y => ?_) q)
  refine ⟨fun i m σ' H' => ∃ ds' S', Step X.K S1 H1 S' H' ∧ Here X.K W x ds' S' σ' H' ∧ m = items.length - i ∧ i ≤ items.length ∧ dLoop G T x (upD X.K S H D) (items.drop i) ds' S', ⟨items.length, ds, S1, ⟨Same.refl _, s1.wd⟩, h.step s1, rfl, Nat.zero_le _, q⟩, fun i m σ' H' ⟨ds', S', s', h', em, hi, q'⟩ => ?_⟩
  obtain ⟨y1, y2, y3⟩ := y S' H' s'
  by_cases hlt : i < items.length
  · refine .inr ⟨y1 i hlt, fun σ2 H2 => ∃ ds2 S2, Step X.K S1 H1 S2 H2 ∧ Here X.K W x ds2 S2 σ2 H2 ∧ dLoop G T x (upD X.K S H D) (items.drop (i + 1)) ds2 S2, fun σ2 H2 ⟨ds2, S2, s2, h2, q2⟩ => ⟨items.length - (i + 1), by omega, ds2, S2, s2, h2, rfl, hlt, q2⟩, fun v H2 hy => ?_⟩
    obtain ⟨s2, r2⟩ := y3 i v H2 _ hy (List.getElem?_eq_getElem hlt)
    rw [List.drop_eq_getElem_cons hlt] at q'
    have h2 := h'.step s2
    refine rg _ v x ds' S' σ' H2 _ h2 r2 (hg.mono _ _ _ _ _ (fun ds3 S3 q3 σ3 H3 s3 rs3 => ?_) q')
    have s23 := s2.trans s3
    have h3 : Here X.K W x ds3 S3 σ3 H3 := ⟨rs3, s3.wd, (h2.step s3).xe⟩
    refine rb x ds3 S3 σ3 H3 _ h3 (hb.mono _ _ _ _ _ ⟨fun ds4 S4 q4 σ4 H4 s4 rs4 => ?_, fun d S4 q4 => ?_, fun ds4 S4 q4 => ?_, fun ds4 S4 q4 σ4 H4 s4 rs4 => ?_⟩ q3)
    · exact ⟨ds4, S4, (s'.trans s23).trans s4, ⟨rs4, s4.wd, (h3.step s4).xe⟩, q4⟩
    · exact q4.step (s1.trans (s'.trans s23))
    · exact q4.step (s1.trans (s'.trans s23))
    · exact ⟨ds4, S4, (s'.trans s23).trans s4, ⟨rs4, s4.wd, (h3.step s4).xe⟩, q4⟩
  · have e : i = items.length := by omega
    subst e
    rw [List.drop_length] at q'
    exact .inl ⟨y2 _ (Nat.le_refl _), q' σ' H' (s1.trans s') h'.rs⟩⟩
/-! ### while -/
def dWhN (T : TT2) (B : TS2) (x : XK2) (D : Ends2) : Nat → Ds → Cells → Prop
  | 0, _, _ => False
  | n + 1, ds, S => T x ds S fun k S1 => if k = true then B x ⟨dWhN T B x D n, D.rt, D.nx, dWhN T B x D n⟩ ds S1 else D.nx ds S1
def dWhile (T : TT2) (B : TS2) : TS2 := fun x D ds S => ∃ n, dWhN T B x D n ds S
theorem dWhN.mono {T : TT2} {B : TS2} (tm : ∀ x ds S Q Q', (∀ d S', Q d S' → Q' d S') → T x ds S Q → T x ds S Q') (bm : ∀ x ds S D D', Ends2.Le D D' → B x D ds S → B x D' ds S) {x : XK2} {D D' : Ends2} (h : D.Le D') :
    ∀ n ds S, dWhN T B x D n ds S → dWhN T B x D' n ds S
  | 0, ds, S, q => q
  | n + 1, ds, S, q => tm _ _ _ _ _ (fun k S1 q1 => ite_mono q1 (fun q1 => bm _ _ _ ⟨dWhN T B x D n, D.rt, D.nx, dWhN T B x D n⟩ _ ⟨fun ds2 S2 q2 => dWhN.mono tm bm h n ds2 S2 q2, h.rt, h.nx, fun ds2 S2 q2 => dWhN.mono tm bm h n ds2 S2 q2⟩ q1) (fun q1 => h.nx _ _ q1)) q
theorem s_while (hp : PassesOwn (model X.prog X.w) X.A X.env X.xe) (hc : T2 X W c Tt) (hb : B2 X W body T) : S2 X W (.While c body [] pos) (dWhile Tt T) := ⟨fun x ds S D D' h ⟨n, q⟩ => ⟨n, dWhN.mono hc.mono hb.mono h n ds S q⟩, by
  obtain ⟨tc, pc, rc⟩ := hc.run
  obtain ⟨t, pb, rb⟩ := hb.run
  refine ⟨_, ps_while hp pc pb, fun x ds S σ H D h ⟨n, q⟩ => ?_⟩
  refine ⟨fun m σ' H' => ∃ ds' S', Step X.K S H S' H' ∧ Here X.K W x ds' S' σ' H' ∧ dWhN Tt T x (upD X.K S H D) m ds' S', ⟨n, ds, S, h.refl, h, q⟩, fun m σ' H' ⟨ds', S', s', h', q'⟩ => ?_⟩
  cases m with
  | zero => exact q'.elim
  | succ m =>
    refine rc x ds' S' σ' H' _ h' (hc.mono x ds' S' _ _ (fun k S2 q2 H2 s2 => ?_) q')
    have h2 := h'.step s2
    refine ite_mono q2 (fun q2 => ?_) (fun q2 => q2 σ' H2 (s'.trans s2) h2.rs)
    refine ⟨fun σ4 H4 => ∃ ds4 S4, Step X.K S H S4 H4 ∧ Here X.K W x ds4 S4 σ4 H4 ∧ dWhN Tt T x (upD X.K S H D) m ds4 S4, fun σ4 H4 w => ⟨m, Nat.lt_succ_self m, w⟩, ?_⟩
    refine rb x ds' S2 σ' H2 _ h2 (hb.mono _ _ _ _ _ ⟨fun ds4 S4 q4 σ4 H4 s4 rs4 => ?_, fun d S4 q4 => ?_, fun ds4 S4 q4 => ?_, fun ds4 S4 q4 σ4 H4 s4 rs4 => ?_⟩ q2)
    · exact ⟨ds4, S4, (s'.trans s2).trans s4, ⟨rs4, s4.wd, (h2.step s4).xe⟩, q4⟩
    · exact q4.step (s'.trans s2)
    · exact q4.step (s'.trans s2)
    · exact ⟨ds4, S4, (s'.trans s2).trans s4, ⟨rs4, s4.wd, (h2.step s4).xe⟩, q4⟩⟩
/-! ### raise X('..') -/
structure ExcOk (K : PySem.W.Frag) (mg : Str → Option Value) (x : Str) (C : Addr) : Prop where
  g : mg x = some (.ref C)
  q : PySem.W.excIn K C He.veBase "ValueError.__new__" = true
  k : PySem.W.keepIn K (.ref C) = true
  b : PySem.W.subIn K (.ref C) (.type "BaseException") = some true
  t : PySem.W.typeIn K (.ref C) = some (.type "type")
def dRaise (C : Addr) : TS2 := fun x _ ds S => x C ds S
theorem s_raise {x m : Str} {C : Addr} {j : Nat} {p p2 pos2 : Pos} (hc : X.calm = true) (tk : L2N.Takes X W) (E : ExcOk X.K X.mg x C) (hg : Gl X x := by rfl) (hdb : (x == ("__debug__" : Str)) = false := by decide) :
    S2 X W (.Raise (some (.Call (.Name x p) [.Constant (.str m) j p2] [] pos)) none pos2) (dRaise C) := ⟨fun x ds S D D' h q => q, _, L2N.ps_raise hc tk (L2N.pmk_own PySem.F.excBase_ValueError E.q E.g E.k (raises_own E.b E.t) hg hdb), fun x ds S σ H D h q => h.xe C ds S q σ H h.refl h.rs⟩
end
end Sc

namespace Sc
open PySem PySem.Spec PyProof.Rows L2
/-! ### readings by their data -/
def cE (K : PySem.W.Frag) (W : WX) (T : TE2) : TE := fun σ H Q => ∃ x ds S, Here K W x ds S σ H ∧ T x ds S (up K S H Q)
def cT (K : PySem.W.Frag) (W : WX) (T : TT2) : TT := fun σ H Q => ∃ x ds S, Here K W x ds S σ H ∧ T x ds S (upB K S H Q)
section
variable {X : Cx} {W : WX} {a b c e elt : Expr} {es : List Expr} {Ta Tb Tc Te : TE2} {Tt Tu : TT2} {TA : TA2} {pos : Pos} {st : Stmt} {rest body : List Stmt} {T U : TS2}
theorem E2.canon (h : E2 X W e Te) : PE X e (cE X.K W Te) := by
  obtain ⟨t, p, r⟩ := h.run
  exact ⟨fun pins s σ H Q I ⟨x, ds, S, hh, q⟩ => p.run pins s σ H Q I (r x ds S σ H Q hh q)⟩
theorem T2.canon (h : T2 X W e Tt) : PT X e (cT X.K W Tt) := by
  obtain ⟨t, p, r⟩ := h.run
  exact ⟨fun pins s σ H Q I ⟨x, ds, S, hh, q⟩ => p.run pins s σ H Q I (r x ds S σ H Q hh q)⟩
abbrev W0 : WX := fun _ _ _ _ => False
abbrev x0 : XK2 := fun _ _ _ => False
/-- the ifs of a comprehension -/
structure F2 (X : Cx) (ifs : List Expr) (T : TT2) : Prop where
  mono : ∀ x ds S Q Q', (∀ d S', Q d S' → Q' d S') → T x ds S Q → T x ds S Q'
  run : PTs X ifs (cT X.K W0 T)
def dYes : TT2 := fun _ _ S Q => Q true S
theorem f_nil : F2 X [] dYes := ⟨fun _ _ _ _ _ h q => h _ _ q, ⟨fun pins s σ H Q I ⟨x, ds, S, hh, q⟩ => pts_nil.run pins s σ H Q I (q H hh.refl)⟩⟩
theorem f_one (h : T2 X W0 c Tt) : F2 X [c] Tt := ⟨h.mono, ⟨fun pins s σ H Q I q => (pts_one h.canon).run pins s σ H Q I q⟩⟩
def dComp (G : TG2) (Tt : TT2) (Te : TE2) (p : Addr) (ds : Ds) (Q : QE) : List Dt → List Dt → Cells → Prop
  | [], acc, S => S p = some (.lst acc) ∧ (Q (.lst acc) (S.del p) ∨ Q (.ref p) S)
  | d :: r, acc, S => G d ds S fun ds2 S2 => Tt x0 ds2 S2 fun k S3 => if k = true then Te x0 ds2 S3 fun y S4 => S4 p = some (.lst acc) ∧ acc.length < 100000 ∧ dComp G Tt Te p ds Q r (acc ++ [y]) (S4.put p (.lst (acc ++ [y]))) else dComp G Tt Te p ds Q r acc S3
theorem dComp.mono {G : TG2} (gm : ∀ d ds S Q Q', (∀ d S', Q d S' → Q' d S') → G d ds S Q → G d ds S Q') (tm : ∀ x ds S Q Q', (∀ d S', Q d S' → Q' d S') → Tt x ds S Q → Tt x ds S Q') (em : ∀ x ds S Q Q', (∀ d S', Q d S' → Q' d S') → Te x ds S Q → Te x ds S Q')
    {p : Addr} {ds : Ds} {Q Q' : QE} (h : ∀ d S', Q d S' → Q' d S') : ∀ items acc S, dComp G Tt Te p ds Q items acc S → dComp G Tt Te p ds Q' items acc S
  | [], acc, S, ⟨e, q⟩ => ⟨e, q.imp (h _ _) (h _ _)⟩
  | d :: r, acc, S, q => gm _ _ _ _ _ (fun ds2 S2 q2 => tm _ _ _ _ _ (fun k S3 q3 => ite_mono q3 (fun q3 => em _ _ _ _ _ (fun y S4 q4 => ⟨q4.1, q4.2.1, dComp.mono gm tm em h r _ _ q4.2.2⟩) q3) (fun q3 => dComp.mono gm tm em h r _ _ q3)) q2) q
def dLc (I : TI2) (G : TG2) (Tt : TT2) (Te : TE2) : TE2 := fun x ds S Q => I x ds S fun items S1 => ∀ p, S1 p = none → dComp G Tt Te p ds Q items [] (S1.put p (.lst []))
/-- the target of a comprehension: its own slots alone are stored -/
structure CG2 (K : PySem.W.Frag) (vs : List Nat) (g : TG) (G : TG2) : Prop where
  mono : ∀ d ds S Q Q', (∀ d S', Q d S' → Q' d S') → G d ds S Q → G d ds S Q'
  run : ∀ d v W x ds S σ H Q, Here K W x ds S σ H → Rp K (wo S H) d v → G d ds S (upS K S H Q) → g v (wipe σ vs) H fun σ2 H2 => wipe σ2 vs = wipe σ vs ∧ Q σ2 H2
theorem cg_name {K : PySem.W.Frag} (i : Nat) : CG2 K [i] (gName i) (kName i) := ⟨fun d ds S Q Q' h q => h _ _ q, fun d v W x ds S σ H Q h r q => by
  have e : ((wipe σ [i]).set i (some v)) = σ.set i (some v) := by
    show ((σ.set i none).set i (some v)) = _
    rw [List.set_set]
  show wipe ((wipe σ [i]).set i (some v)) [i] = wipe σ [i] ∧ Q ((wipe σ [i]).set i (some v)) H
  rw [e]
  refine ⟨?_, q _ H h.refl (h.rs.set r)⟩
  show (σ.set i (some v)).set i none = σ.set i none
  rw [List.set_set]⟩
theorem cg_pair {K : PySem.W.Frag} (i j : Nat) (hij : i ≠ j) : CG2 K [i, j] (gTup K 2 (gCons (gName i) (gCons (gName j) gNil))) (kTup 2 (kCons (kName i) (kCons (kName j) kNil))) := ⟨fun d ds S Q Q' h ⟨es, e, l, d1, r1, e1, d2, r2, e2, e3, q⟩ => ⟨es, e, l, d1, r1, e1, d2, r2, e2, e3, h _ _ q⟩,
    fun d v W x ds S σ H Q h r ⟨es, e, l, d1, r1, e1, d2, r2, e2, e3, q⟩ => by
  subst e1 e2 e3
  obtain ⟨a, xs, k1, k2, k3⟩ := asT_ok r e
  obtain ⟨u1, u2, k4, k5, k6⟩ := rps2 k3
  subst k4
  refine ⟨a, _, k1, k2, rfl, u1, _, rfl, u2, _, rfl, rfl, ?_⟩
  have e4 : (((wipe σ [i, j]).set i (some u1)).set j (some u2)) = (σ.set i (some u1)).set j (some u2) := by
    show ((((σ.set j none).set i none).set i (some u1)).set j (some u2)) = _
    rw [List.set_set, List.set_comm _ _ (Ne.symm hij), List.set_set]
  show wipe (((wipe σ [i, j]).set i (some u1)).set j (some u2)) [i, j] = wipe σ [i, j] ∧ Q (((wipe σ [i, j]).set i (some u1)).set j (some u2)) H
  rw [e4]
  refine ⟨?_, q _ H h.refl ((h.rs.set k5).set k6)⟩
  show ((((σ.set i (some u1)).set j (some u2)).set j none).set i none) = (σ.set j none).set i none
  rw [List.set_set, List.set_comm _ _ hij, List.set_set, List.set_comm _ _ (Ne.symm hij)]⟩
theorem lc_lift {I : TI2} {g : TG} {G : TG2} {vs : List Nat} {wi : TI} (hG : CG2 X.K vs g G) (tm : ∀ x ds S Q Q', (∀ d S', Q d S' → Q' d S') → Tt x ds S Q → Tt x ds S Q') (em : ∀ x ds S Q Q', (∀ d S', Q d S' → Q' d S') → Te x ds S Q → Te x ds S Q')
    (im : ∀ x ds S Q Q', (∀ d S', Q d S' → Q' d S') → I x ds S Q → I x ds S Q') (ri : ∀ x ds S σ H R, Here X.K W x ds S σ H → I x ds S (fun items S1 => ∀ H1 J, Step X.K S H S1 H1 → Yields X.K J items S1 H1 → R J H1) → wi σ H R) :
    ∀ x ds S σ H Q, Here X.K W x ds S σ H → dLc I G Tt Te x ds S (up X.K S H Q) → tLc wi g (cT X.K W0 Tt) (cE X.K W0 Te) vs σ H Q := fun x ds S σ H Q h q => by
  refine ri x ds S σ H _ h (im x ds S _ _ (fun items S1 q H1 J s1 y => ?_) q)
  intro D hD
  have hwo := put_wo (S := S1) (H := H1) (p := D) (o := .lst []) (.lst []) (.inr hD)
  have sD : Step X.K S1 H1 (S1.put D (.lst [])) (upd H1 D (.lst [])) := ⟨by rw [hwo]; exact Same.refl _, put_wd s1.wd (.inr hD) ⟨[], upd_same, rfl⟩⟩
  refine ⟨fun i m H' => ∃ S' acc, Step X.K S1 H1 S' H' ∧ m = items.length - i ∧ i ≤ items.length ∧ dComp G Tt Te D ds (up X.K S H Q) (items.drop i) acc S', ⟨items.length, _, [], sD, rfl, Nat.zero_le _, q D (s1.wd.free hD)⟩, fun i m H' ⟨S', acc, s', em', hi, q'⟩ => ?_⟩
  obtain ⟨y1, y2, y3⟩ := y S' H' s'
  by_cases hlt : i < items.length
  · refine .inr ⟨y1 i hlt, fun H2 => ∃ S2 acc, Step X.K S1 H1 S2 H2 ∧ dComp G Tt Te D ds (up X.K S H Q) (items.drop (i + 1)) acc S2, fun H2 ⟨S2, acc2, s2, q2⟩ => ⟨items.length - (i + 1), by omega, S2, acc2, s2, rfl, hlt, q2⟩, fun v H2 hy => ?_⟩
    obtain ⟨s2, r2⟩ := y3 i v H2 _ hy (List.getElem?_eq_getElem hlt)
    rw [List.drop_eq_getElem_cons hlt] at q'
    have h2 : Here X.K W0 x0 ds S' σ H2 := ⟨h.rs.mono (s1.trans (s'.trans s2)).same, s2.wd, fun _ _ _ z => z.elim⟩
    refine hG.run _ v W0 x0 ds S' σ H2 _ h2 r2 (hG.mono _ _ _ _ _ (fun ds3 S3 q3 σ3 H3 s3 rs3 => ?_) q')
    have h3 : Here X.K W0 x0 ds3 S3 σ3 H3 := ⟨rs3, s3.wd, fun _ _ _ z => z.elim⟩
    refine ⟨x0, ds3, S3, h3, tm _ _ _ _ _ (fun k S4 q4 H4 s4 => ?_) q3⟩
    have s14 := (s'.trans s2).trans (s3.trans s4)
    refine ite_mono q4 (fun q4 => ?_) (fun q4 => ⟨S4, acc, s14, q4⟩)
    refine ⟨x0, ds3, S4, h3.step s4, em _ _ _ _ _ (fun y S5 ⟨e5, l5, q5⟩ u H5 s5 r5 => ?_) q4⟩
    obtain ⟨accV, k1, k2⟩ := s5.wd D _ e5
    have hS : S5 D ≠ none ∨ H5 D = none := .inl (by rw [e5]; intro z; cases z)
    refine ⟨accV, k1, by rw [k2.length]; exact Nat.lt_of_lt_of_le l5 (by decide), S5.put D (.lst (acc ++ [y])), acc ++ [y], (s14.trans s5).trans ⟨?_, put_wd s5.wd hS ⟨_, upd_same, k2.app (Rps.one r5)⟩⟩, q5⟩
    rw [put_wo _ hS]
    exact Same.refl _
  · have e : i = items.length := by omega
    subst e
    rw [List.drop_length] at q'
    refine .inl ⟨y2 _ (Nat.le_refl _), ?_⟩
    obtain ⟨e5, q5⟩ := q'
    rcases q5 with q5 | q5
    · exact q5 _ _ ((s1.trans s').trans ⟨froz_same, froz_wd s'.wd⟩) (froz_at s'.wd e5)
    · exact q5 _ _ (s1.trans s') rfl
theorem e_lc {I : TI2} {g : TG} {G : TG2} {tg iter : Expr} {ifs : List Expr} {scope : Scope} {own : List (Str × Nat)} (hc : X.calm = true) (hN : X.N.Nodup) (hi : J2 X W tg iter I) (ok : BlkOk X.N X.env.scope scope own) (hG : CG2 X.K (own.map (·.2)) g G)
    (hg : ∀ (s : Shared) (H : Hp) (C : Addr) (cl : List (Str × Addr)) (fp : List Addr), PG (X.blk s H scope (compEnvC scope cl C X.env) fp) tg g) (ht : ∀ (s : Shared) (H : Hp) (C : Addr) (cl : List (Str × Addr)) (fp : List Addr), F2 (X.blk s H scope (compEnvC scope cl C X.env) fp) ifs Tt)
    (he : ∀ (s : Shared) (H : Hp) (C : Addr) (cl : List (Str × Addr)) (fp : List Addr), E2 (X.blk s H scope (compEnvC scope cl C X.env) fp) W0 elt Te) (hs : ∀ x, foldedSetIterable iter X.env x = pure x := by intro _; rfl) :
    E2 X W (.ListComp elt [⟨tg, iter, ifs, 0⟩] scope pos) (dLc I G Tt Te) := ⟨fun x ds S Q Q' h q => hi.mono _ _ _ _ _ (fun items S1 q p hp => dComp.mono hG.mono (ht X.s_0 X.H_0 0 [] []).mono (he X.s_0 X.H_0 0 [] []).mono h items [] _ (q p hp)) q, by
  obtain ⟨wi, pi, ri⟩ := hi.run
  exact ⟨_, pe_lc hc hN pi ok hg (fun s H C cl fp => (ht s H C cl fp).run) (fun s H C cl fp => (he s H C cl fp).canon) hs, lc_lift hG (ht X.s_0 X.H_0 0 [] []).mono (he X.s_0 X.H_0 0 [] []).mono hi.mono ri⟩⟩
/-- y = [..] on one line, y a local -/
theorem s_setLc (i : Nat) {y : Str} {py : Pos} {I : TI2} {g : TG} {G : TG2} {tg iter : Expr} {ifs : List Expr} {scope : Scope} {own : List (Str × Nat)} {spos : Pos} (hc : X.calm = true) (hN : X.N.Nodup) (hy : X.N[i]? = some y) (hyl : X.env.scope.names.lookup y = some .local)
    (hsw : swapsWith (.ListComp elt [⟨tg, iter, ifs, 0⟩] scope pos) (some (.Name y py)) spos.line X.env = pure true) (hi : J2 X W tg iter I) (ok : BlkOk X.N X.env.scope scope own) (hG : CG2 X.K (own.map (·.2)) g G)
    (hg : ∀ (s : Shared) (H : Hp) (C : Addr) (cl : List (Str × Addr)) (fp : List Addr), PG (X.blk s H scope (compEnvC scope cl C X.env) fp) tg g) (ht : ∀ (s : Shared) (H : Hp) (C : Addr) (cl : List (Str × Addr)) (fp : List Addr), F2 (X.blk s H scope (compEnvC scope cl C X.env) fp) ifs Tt)
    (he : ∀ (s : Shared) (H : Hp) (C : Addr) (cl : List (Str × Addr)) (fp : List Addr), E2 (X.blk s H scope (compEnvC scope cl C X.env) fp) W0 elt Te) (hs : ∀ x, foldedSetIterable iter X.env x = pure x := by intro _; rfl) :
    S2 X W (.Assign [.Name y py] (.ListComp elt [⟨tg, iter, ifs, 0⟩] scope pos) spos) (dSet i (dLc I G Tt Te)) := ⟨fun x ds S D D' h q => hi.mono _ _ _ _ _ (fun items S1 q p hp => dComp.mono hG.mono (ht X.s_0 X.H_0 0 [] []).mono (he X.s_0 X.H_0 0 [] []).mono (fun d S' q => h.nx _ _ q) items [] _ (q p hp)) q, by
  obtain ⟨wi, pi, ri⟩ := hi.run
  refine ⟨tAsg (tLc wi g (cT X.K W0 Tt) (cE X.K W0 Te) (own.map (·.2))) (gName i), ps_setLc hc hN hy hyl hsw pi ok hg (fun s H C cl fp => (ht s H C cl fp).run) (fun s H C cl fp => (he s H C cl fp).canon) hs, fun x ds S σ H D h q => ?_⟩
  refine lc_lift hG (ht X.s_0 X.H_0 0 [] []).mono (he X.s_0 X.H_0 0 [] []).mono hi.mono ri x ds S σ H _ h (hi.mono _ _ _ _ _ (fun items S1 q p hp => dComp.mono hG.mono (ht X.s_0 X.H_0 0 [] []).mono (he X.s_0 X.H_0 0 [] []).mono (fun d S' q v H' s' r' => ?_) items [] _ (q p hp)) q)
  exact q _ H' s' ((h.rs.mono s'.same).set r')⟩
end

/-! ### a def by its body -/
def start2 (n : Nat) (ds : List Dt) : Ds := ds.map some ++ List.replicate (n - ds.length) none
abbrev D0 (Q : QE) : Ends2 := { nx := fun _ S' => Q .non S', rt := Q }
abbrev X0 (E : Addr → Cells → Prop) : XK2 := fun C _ S' => E C S'
theorem start2_rs {K : PySem.W.Frag} {I : Hp} {N : List Str} {ds : List Dt} {vs : List V} (h : Rps K I ds vs) : Rs K I (start2 N.length ds) (L2.start N vs) := by
  have hl := h.length
  refine ⟨by unfold start2 L2.start; simp [hl], fun i d e => ?_⟩
  unfold start2 at e
  by_cases hi : i < ds.length
  · rw [List.getElem?_append_left (by simpa using hi), List.getElem?_map] at e
    cases q : ds[i]? with
    | none => rw [q] at e; cases e
    | some d' =>
      rw [q] at e
      cases (show some (some d') = some (some d) from e)
      obtain ⟨v, h1, h2⟩ := h.get q
      refine ⟨v, ?_, h2⟩
      unfold L2.start
      rw [List.getElem?_append_left (by rw [List.length_map, hl]; exact hi), List.getElem?_map, h1]
      rfl
  · rw [List.getElem?_append_right (by simp; omega)] at e
    rw [List.getElem?_replicate] at e
    split at e <;> cases e
/-- what is wanted may forget a new cell -/
def Fg (Q : QE) : Prop := ∀ d S p c, S p = none → Q d S → Q d (S.put p c)
/-- a list that nobody will change may be read as data -/
structure Frg (Q : QE) : Prop where
  fg : Fg Q
  fz : ∀ S p l, S p = none → Q (.lst l) S → Q (.ref p) (S.put p (.lst l))
/-- the reading T of a def's body (n slots) keeps the promise -/
def Pure (n : Nat) (sp : Sp2) (T : TS2) : Prop := ∀ ds S Q E, Frg Q → sp ds S Q E → T (X0 E) (D0 Q) (start2 n ds) S
theorem up_frg {K : PySem.W.Frag} {S : Cells} {H : Hp} {Q : VK} {d : Dt} {S' : Cells} {p : Addr} {c : Cell} (hp : S' p = none) (q : up K S H Q d S') : up K S H Q d (S'.put p c) := fun v H' s r => by
  have e : (S'.put p c).del p = S' := by
    funext a
    unfold Cells.del Cells.put
    by_cases h : a = p
    · rw [if_pos h, h, hp]
    · rw [if_neg h, if_neg h]
  have f := froz_same (S := S'.put p c) (H := H') (p := p)
  have g := froz_wd (p := p) s.wd
  rw [e] at f g
  exact q v H' ⟨s.same.trans f, g⟩ (r.mono f)
theorem up_frz {K : PySem.W.Frag} {S : Cells} {H : Hp} {Q : VK} {l : List Dt} {S' : Cells} {p : Addr} (hp : S' p = none) (q : up K S H Q (.lst l) S') : up K S H Q (.ref p) (S'.put p (.lst l)) := fun v H' s r => by
  have k := froz_at (p := p) s.wd Cells.put_same
  have e : (S'.put p (.lst l)).del p = S' := by
    funext a
    unfold Cells.del Cells.put
    by_cases h : a = p
    · rw [if_pos h, h, hp]
    · rw [if_neg h, if_neg h]
  have f := froz_same (S := S'.put p (.lst l)) (H := H') (p := p)
  have g := froz_wd (p := p) s.wd
  rw [e] at f g k
  cases (show v = _ from r)
  exact q _ H' ⟨s.same.trans f, g⟩ k
section
variable {P : Program} {w : World} {K : PySem.W.Frag} {mg : Str → Option Value} {base : Heap}
theorem fnok_mk {x : Str} {f : Addr} {fd : FuncData} {params : Arguments} {bd : List Stmt} {scope : Scope} {N ps : List Str} {k : Nat} {sp : Sp2} {T : TS2} (F : FunD K x x params bd scope [] [] f fd) (S : FnScope N ps scope)
    (len : ∀ ds S Q E, sp ds S Q E → ds.length = ps.length) (hp : Pure N.length sp T)
    (hb2 : ∀ (cdv : Value) (A : Around) (outer : List Env) (s : Shared) (H : Hp) (E : XK), Room k (A.deeper (envOfC x scope s.heap.objs.size f cdv)) → B2 (cxOf (L2N.CX P w) P w K mg base N x scope f cdv A outer s H E) (fun cls d _ H => E cls d H) bd T) :
    FnOk P w K mg base (L2N.CX P w) (k + 1) f fd ps (lift K sp) := by
  refine F.ok S (fun vs H Q E ⟨S1, ds, w1, r1, h⟩ => by rw [r1.length]; exact len _ _ _ _ h) (fun cdv A outer s H vs Q E hr ⟨S1, ds, w1, r1, h⟩ => ?_)
  have hT := hb2 cdv A outer s H E hr
  obtain ⟨t, p, r⟩ := hT.run
  refine ⟨t, p, r (fun C _ S' => ∀ H', Step K S1 H S' H' → E (.ref C) none H') (start2 N.length ds) S1 (L2.start N vs) H _ ⟨start2_rs r1, w1, fun C ds' S' q σ' H' s' _ => q H' s'⟩ ?_⟩
  refine hT.mono _ _ _ { nx := fun _ S' => up K S1 H Q .non S', rt := up K S1 H Q } _ ⟨fun ds' S' q σ' H' s' rs' => q _ H' s' rfl, fun d S' q => q, fun _ _ q => q.elim, fun _ _ q => q.elim⟩ (hp ds S1 (up K S1 H Q) _ ⟨fun d S' p c hp q => up_frg hp q, fun S' p l hp q => up_frz hp q⟩ h)
theorem Has.mk {x : Str} {f : Addr} {fd : FuncData} {params : Arguments} {bd : List Stmt} {scope : Scope} {N ps : List Str} {k : Nat} {sp : Sp2} {T : TS2} (F : FunD K x x params bd scope [] [] f fd) (S : FnScope N ps scope) (hm : mg x = some (.ref f)) (hb : Binds K fd ps [])
    (mono : sp.Mono) (len : ∀ ds S Q E, sp ds S Q E → ds.length = ps.length) (hp : Pure N.length sp T)
    (hb2 : ∀ (cdv : Value) (A : Around) (outer : List Env) (s : Shared) (H : Hp) (E : XK), Room k (A.deeper (envOfC x scope s.heap.objs.size f cdv)) → B2 (cxOf (L2N.CX P w) P w K mg base N x scope f cdv A outer s H E) (fun cls d _ H => E cls d H) bd T) :
    Has P w K mg base (k + 1) x ps sp := ⟨mono, f, fd, hm, F.kp, hb, fnok_mk F S len hp hb2⟩
end
end Sc

namespace Sc
open PySem PySem.Spec PyProof.Rows L2
/-! ### == of data -/
mutual
def py : Dt → PyData
  | .non => .none
  | .bl b => .bool b
  | .int i => .int i
  | .str x => .str x
  | .tup ds => .tuple (pys ds)
  | .lst ds => .list (pys ds)
  | .ref _ => .none
def pys : List Dt → List PyData
  | [] => []
  | d :: ds => py d :: pys ds
end
/-- data without truth values, of a small depth -/
inductive Ok0 : Nat → Dt → Prop
  | non (n : Nat) : Ok0 n .non
  | int (n : Nat) (i : Int) : Ok0 n (.int i)
  | str (n : Nat) (x : Str) (h : PyData.strOk x = true) : Ok0 n (.str x)
  | tup {n : Nat} {ds : List Dt} (h : ∀ d, d ∈ ds → Ok0 n d) : Ok0 (n + 1) (.tup ds)
  | lst {n : Nat} {ds : List Dt} (h : ∀ d, d ∈ ds → Ok0 n d) : Ok0 (n + 1) (.lst ds)
theorem pys_lay : ∀ (ds : List Dt), (∀ d, d ∈ ds → (py d).canLay0 = true) → PyData.canLayAll0 (pys ds) = true
  | [], _ => by rw [pys, PyData.canLayAll0]
  | d :: ds, h => by rw [pys, PyData.canLayAll0, h d List.mem_cons_self, pys_lay ds (fun e he => h e (List.mem_cons_of_mem _ he))]; rfl
theorem pys_depth {n : Nat} : ∀ (ds : List Dt), (∀ d, d ∈ ds → (py d).depth ≤ n) → PyData.depthAll (pys ds) ≤ n
  | [], _ => by rw [pys, PyData.depthAll]; exact Nat.zero_le _
  | d :: ds, h => by
    rw [pys, PyData.depthAll]
    exact Nat.max_le.mpr ⟨h d List.mem_cons_self, pys_depth ds (fun e he => h e (List.mem_cons_of_mem _ he))⟩
theorem Ok0.lay {n : Nat} {d : Dt} (h : Ok0 n d) : (py d).canLay0 = true := by
  induction h with
  | non => rw [py, PyData.canLay0]
  | int => rw [py, PyData.canLay0]
  | str n x h => rw [py, PyData.canLay0]; exact h
  | tup h ih => rw [py, PyData.canLay0]; exact pys_lay _ ih
  | lst h ih => rw [py, PyData.canLay0]; exact pys_lay _ ih
theorem Ok0.depth {n : Nat} {d : Dt} (h : Ok0 n d) : (py d).depth ≤ n := by
  induction h with
  | non => rw [py, PyData.depth]; exact Nat.zero_le _
  | int => rw [py, PyData.depth]; exact Nat.zero_le _
  | str n x h => rw [py, PyData.depth]; exact Nat.zero_le _
  | tup h ih => rw [py, PyData.depth]; exact Nat.succ_le_succ (pys_depth _ ih)
  | lst h ih => rw [py, PyData.depth]; exact Nat.succ_le_succ (pys_depth _ ih)
theorem Ok0.shaped {n : Nat} {d : Dt} (h : Ok0 n d) (hn : n ≤ 64) : SeqAt.shaped (py d) = true := by
  unfold SeqAt.shaped
  rw [h.lay, decide_eq_true (Nat.le_trans h.depth hn)]
  rfl
theorem eqvAll_iff {n : Nat} : ∀ (ds es : List Dt), (∀ d, d ∈ ds → ∀ m e, Ok0 m e → (PyData.eqv (py d) (py e) = true ↔ d = e)) → (∀ e, e ∈ es → Ok0 n e) → (PyData.eqvAll (pys ds) (pys es) = true ↔ ds = es)
  | [], [], _, _ => by simp [pys, PyData.eqvAll]
  | [], e :: es, _, _ => by simp [pys, PyData.eqvAll]
  | d :: ds, [], _, _ => by simp [pys, PyData.eqvAll]
  | d :: ds, e :: es, h, h' => by
    have h1 := h d List.mem_cons_self n e (h' e List.mem_cons_self)
    have h2 := eqvAll_iff ds es (fun a ha => h a (List.mem_cons_of_mem _ ha)) (fun a ha => h' a (List.mem_cons_of_mem _ ha))
    simp only [pys, PyData.eqvAll, Bool.and_eq_true, List.cons.injEq]
    rw [h1, h2]
theorem Ok0.eqv {n : Nat} {d : Dt} (h : Ok0 n d) : ∀ {m : Nat} {e : Dt}, Ok0 m e → (PyData.eqv (py d) (py e) = true ↔ d = e) := by
  induction h with
  | non => intro m e h'; cases h' <;> simp [py, PyData.eqv]
  | int => intro m e h'; cases h' <;> simp [py, PyData.eqv]
  | str => intro m e h'; cases h' <;> simp [py, PyData.eqv]
  | tup h ih =>
    intro m e h'
    cases h' with
    | tup k =>
      have z := eqvAll_iff _ _ (fun d hd m e he => ih d hd he) k
      simp only [py, PyData.eqv, Dt.tup.injEq]
      exact z
    | _ => simp [py, PyData.eqv]
  | lst h ih =>
    intro m e h'
    cases h' with
    | lst k =>
      have z := eqvAll_iff _ _ (fun d hd m e he => ih d hd he) k
      simp only [py, PyData.eqv, Dt.lst.injEq]
      exact z
    | _ => simp [py, PyData.eqv]
mutual
theorem Rp.dp {K : PySem.W.Frag} {I H : Hp} (s : Same I H) : ∀ {d : Dt} {v : V} {n : Nat}, Ok0 n d → Rp K I d v → Dp K H v (py d)
  | .non, v, _, _, h => by cases (show v = _ from h); rw [py]; exact .non
  | .bl _, v, _, o, h => by cases o
  | .int _, v, _, _, h => by cases (show v = _ from h); rw [py]; exact .int _
  | .str _, v, _, _, h => by cases (show v = _ from h); rw [py]; exact .str _
  | .ref _, v, _, o, h => by cases o
  | .tup ds, v, _, o, h => by
    obtain ⟨a, xs, e, h1, h2⟩ := h
    subst e
    rw [py]
    refine .tup (sqT_mono s h1) (Rps.dp s (ds := ds) (fun d hd => ?_) h2)
    cases o with
    | tup k => exact ⟨_, k d hd⟩
  | .lst ds, v, _, o, h => by
    obtain ⟨a, xs, e, h1, h2⟩ := h
    subst e
    rw [py]
    refine .lst (sqL_mono s h1) (Rps.dp s (ds := ds) (fun d hd => ?_) h2)
    cases o with
    | lst k => exact ⟨_, k d hd⟩
theorem Rps.dp {K : PySem.W.Frag} {I H : Hp} (s : Same I H) : ∀ {ds : List Dt} {vs : List V}, (∀ d, d ∈ ds → ∃ n, Ok0 n d) → Rps K I ds vs → DpAll K H vs (pys ds)
  | [], vs, _, h => by cases (show vs = [] from h); rw [pys]; exact .nil
  | d :: ds, vs, o, h => by
    obtain ⟨v, us, e, h1, h2⟩ := h
    subst e
    obtain ⟨n, hn⟩ := o d List.mem_cons_self
    rw [pys]
    exact .cons (Rp.dp s hn h1) (Rps.dp s (fun e he => o e (List.mem_cons_of_mem _ he)) h2)
end
/-- a list that may change, as it is -/
def rsv (S : Cells) : Dt → Dt
  | .ref a => match S a with
    | some (.lst ds) => .lst ds
    | _ => .ref a
  | d => d
theorem rsv_dp {K : PySem.W.Frag} {S : Cells} {H : Hp} {d : Dt} {v : V} {n : Nat} (w : Wd K S H) (o : Ok0 n (rsv S d)) (r : Rp K (wo S H) d v) : Dp K H v (py (rsv S d)) := by
  cases d with
  | ref a =>
    have er : rsv S (.ref a) = (match S a with | some (.lst ds) => .lst ds | _ => .ref a) := rfl
    rw [er] at o ⊢
    cases q : S a with
    | none => rw [q] at o; cases o
    | some c =>
      cases c with
      | ins C fs => rw [q] at o; cases o
      | lst ds =>
        rw [q] at o
        show Dp K H v (py (.lst ds))
        obtain ⟨xs, k1, k2⟩ := w a _ q
        cases (show v = _ from r)
        rw [py]
        refine .lst (SqL.of k1) (Rps.dp wo_le (fun d hd => ?_) k2)
        cases o with
        | lst k => exact ⟨_, k d hd⟩
  | _ => exact Rp.dp wo_le o r
def DEq (S : Cells) (d e : Dt) (b : Bool) : Prop := ∃ n m, n ≤ 64 ∧ m ≤ 64 ∧ Ok0 n (rsv S d) ∧ Ok0 m (rsv S e) ∧ (b = true ↔ rsv S d = rsv S e)
theorem DEq.mk {S : Cells} {d e : Dt} {n m : Nat} {p : Prop} [Decidable p] (h1 : Ok0 n (rsv S d)) (h2 : Ok0 m (rsv S e)) (h : p ↔ rsv S d = rsv S e) (hn : n ≤ 64 := by decide) (hm : m ≤ 64 := by decide) : DEq S d e (decide p) :=
  ⟨n, m, hn, hm, h1, h2, decide_eq_true_iff.trans h⟩
def qEqD : QO := fun d e S Q => ∃ b, DEq S d e b ∧ Q (.bl b) S
def qNeD : QO := fun d e S Q => ∃ b, DEq S d e b ∧ Q (.bl (!b)) S
theorem bool_iff {a b : Bool} {p : Prop} (h1 : a = true ↔ p) (h2 : b = true ↔ p) : a = b := by
  rw [Bool.eq_iff_iff, h1, h2]
section
variable {X : Cx}
theorem o_eqD (hu : X.A.units + 64 < cLine) : O2 X (compareOp .Eq) qEqD := ⟨fun d e S Q Q' hq ⟨b, h, q⟩ => ⟨b, h, hq _ _ q⟩, _, op_eqD hu, fun d e v u S H Q w r1 r2 ⟨b, ⟨n, m, hn, hm, o1, o2, hb⟩, q⟩ => by
  refine ⟨_, _, rsv_dp w o1 r1, rsv_dp w o2 r2, o1.shaped hn, o2.shaped hm, ?_⟩
  rw [bool_iff (o1.eqv o2) hb]
  exact q _ H ⟨Same.refl _, w⟩ rfl⟩
theorem o_neD (hu : X.A.units + 64 < cLine) : O2 X (compareOp .NotEq) qNeD := ⟨fun d e S Q Q' hq ⟨b, h, q⟩ => ⟨b, h, hq _ _ q⟩, _, op_neD hu, fun d e v u S H Q w r1 r2 ⟨b, ⟨n, m, hn, hm, o1, o2, hb⟩, q⟩ => by
  refine ⟨_, _, rsv_dp w o1 r1, rsv_dp w o2 r2, o1.shaped hn, o2.shaped hm, ?_⟩
  rw [bool_iff (o1.eqv o2) hb]
  exact q _ H ⟨Same.refl _, w⟩ rfl⟩
end
end Sc

/-! Slices, chains and what they keep: plain Lean. -/
namespace Sm
abbrev Sl := Option Int × Option Int × Int
abbrev Pg := Int × Int × Int
def okB (o : Option Int) : Prop := ∀ i, o = some i → -30 ≤ i ∧ i ≤ 30
def okS (s : Sl) : Prop := okB s.1 ∧ okB s.2.1 ∧ -3 ≤ s.2.2 ∧ s.2.2 ≤ 3 ∧ s.2.2 ≠ 0
def okC (c : List Sl) : Prop := c.length ≤ 4 ∧ ∀ s, s ∈ c → okS s
def moved (b c lo hi : Int) : Int := max lo (min hi (if b < 0 then b + c else b))
def begP (o : Option Int) (c : Int) : Int := match o with | none => 0 | some b => moved b c 0 c
def endP (o : Option Int) (c : Int) : Int := match o with | none => c | some b => moved b c 0 c
def begN (o : Option Int) (c : Int) : Int := match o with | none => c - 1 | some b => moved b c (-1) (c - 1)
def endN (o : Option Int) (c : Int) : Int := match o with | none => -1 | some b => moved b c (-1) (c - 1)
def endsOf (s : Sl) (c : Int) : Int × Int := if 0 < s.2.2 then (begP s.1 c, endP s.2.1 c) else (begN s.1 c, endN s.2.1 c)
def manyOf (s : Sl) (c : Int) : Int :=
  if 0 < s.2.2 then max 0 (((endsOf s c).2 - (endsOf s c).1 + s.2.2 - 1) / s.2.2)
  else max 0 (((endsOf s c).1 - (endsOf s c).2 - s.2.2 - 1) / (- s.2.2))
def applied (s : Sl) (p : Pg) : Pg := (p.1 + p.2.1 * (endsOf s p.2.2).1, p.2.1 * s.2.2, manyOf s p.2.2)
def shownF (c : List Sl) (p : Pg) : Pg := c.foldl (fun p s => applied s p) p
def shown (c : List Sl) (n : Int) : Pg := shownF c (0, 1, n)
def cleaned (p : Pg) : Option Int × Option Int × Int := (if p.2.2 > 0 then some p.1 else none, if p.2.2 > 1 then some p.2.1 else none, p.2.2)
def clean (c : List Sl) (n : Int) : Option Int × Option Int × Int := cleaned (shown c n)
def absB (o : Option Int) : Int := ((o.getD 0).natAbs : Int)
/-- (threshold so far, weight so far) -/
def wts (c : List Sl) (p : Int × Int) : Int × Int := c.foldl (fun p s => (p.1 + p.2 * (1 + absB s.1 + absB s.2.1), p.2 * (s.2.2.natAbs : Int))) p
def thr (c : List Sl) : Int := (wts c (0, 1)).1
def per (c : List Sl) : Int := (wts c (0, 1)).2
def lcmI (a b : Int) : Int := ((a.natAbs.lcm b.natAbs : Nat) : Int)
def lastT (c d : List Sl) : Int := max (thr c) (thr d)
def bothP (c d : List Sl) : Int := lcmI (per c) (per d)
def bnd (c d : List Sl) : Int := lastT c d + 3 * bothP c d
/-- the smallest n from a on, m of them, at which p holds -/
def search (p : Int → Bool) : Int → Nat → Option Int
  | _, 0 => none
  | a, m + 1 => if p a = true then some a else search p (a + 1) m
def unlike (c d : List Sl) (n : Int) : Bool := decide (clean c n ≠ clean d n)
def firstD (c d : List Sl) : Option Int := search (unlike c d) 0 (bnd c d).toNat
theorem moved_pos {b c : Int} (hc : 0 ≤ c) : moved b c 0 c = if b < 0 then max 0 (b + c) else min b c := by
  unfold moved
  split <;> omega
theorem moved_neg {b c : Int} (hc : 0 ≤ c) : moved b c (-1) (c - 1) = if b < 0 then max (-1) (b + c) else min b (c - 1) := by
  unfold moved
  split <;> omega
theorem ends_pos {a b : Option Int} {t c : Int} (h : 0 < t) : endsOf (a, b, t) c = (begP a c, endP b c) := if_pos h
theorem ends_neg {a b : Option Int} {t c : Int} (h : ¬ 0 < t) : endsOf (a, b, t) c = (begN a c, endN b c) := if_neg h
theorem many_pos {a b : Option Int} {t c : Int} (h : 0 < t) : manyOf (a, b, t) c = max 0 ((endP b c - begP a c + t - 1) / t) := by
  unfold manyOf
  rw [if_pos h, ends_pos h]
theorem many_neg {a b : Option Int} {t c : Int} (h : ¬ 0 < t) : manyOf (a, b, t) c = max 0 ((begN a c - endN b c - t - 1) / (-t)) := by
  unfold manyOf
  rw [if_neg h, ends_neg h]
theorem div_max {x t : Int} (ht : 0 < t) : (max 0 x + t - 1) / t = max 0 ((x + t - 1) / t) := by
  by_cases h : 0 ≤ x
  · have e : max 0 x = x := by omega
    rw [e]
    have : 0 ≤ (x + t - 1) / t := Int.ediv_nonneg (by omega) (by omega)
    omega
  · have e : max 0 x = 0 := by omega
    rw [e]
    have h1 : (0 + t - 1) / t = 0 := Int.ediv_eq_zero_of_lt (by omega) (by omega)
    have h2 : (x + t - 1) / t < 1 := Int.ediv_lt_of_lt_mul ht (by omega)
    omega
theorem many_nn (s : Sl) (c : Int) : 0 ≤ manyOf s c := by
  unfold manyOf
  split <;> omega
theorem absB_nn (o : Option Int) : 0 ≤ absB o := Int.natCast_nonneg _
theorem absB_le {o : Option Int} (h : okB o) : absB o ≤ 30 := by
  cases o with
  | none => decide
  | some i =>
    have := h i rfl
    show ((i.natAbs : Nat) : Int) ≤ 30
    omega
theorem wts_bound : ∀ (c : List Sl) (p : Int × Int) (t w : Int), (∀ s, s ∈ c → okS s) → 0 ≤ p.1 → p.1 ≤ t → 0 < p.2 → p.2 ≤ w →
    0 ≤ (wts c p).1 ∧ 0 < (wts c p).2 ∧ (wts c p).2 ≤ w * 3 ^ c.length
  | [], p, t, w, _, h1, h2, h3, h4 => ⟨h1, h3, by simpa [wts] using h4⟩
  | s :: c, p, t, w, h, h1, h2, h3, h4 => by
    have hs := h s List.mem_cons_self
    have a1 := absB_nn s.1
    have a2 := absB_nn s.2.1
    have n1 : 1 ≤ (s.2.2.natAbs : Int) ∧ (s.2.2.natAbs : Int) ≤ 3 := by
      obtain ⟨_, _, x, y, z⟩ := hs
      omega
    have e : wts (s :: c) p = wts c (p.1 + p.2 * (1 + absB s.1 + absB s.2.1), p.2 * (s.2.2.natAbs : Int)) := rfl
    rw [e]
    have k1 : 0 ≤ p.2 * (1 + absB s.1 + absB s.2.1) := Int.mul_nonneg (by omega) (by omega)
    have k2 : 0 < p.2 * (s.2.2.natAbs : Int) := Int.mul_pos h3 (by omega)
    have k3 : p.2 * (s.2.2.natAbs : Int) ≤ w * 3 := Int.mul_le_mul h4 n1.2 (by omega) (by omega)
    have z := wts_bound c (p.1 + p.2 * (1 + absB s.1 + absB s.2.1), p.2 * (s.2.2.natAbs : Int)) (p.1 + p.2 * (1 + absB s.1 + absB s.2.1)) (w * 3) (fun s hs => h s (List.mem_cons_of_mem _ hs)) (by show 0 ≤ p.1 + _; omega) (Int.le_refl _) k2 k3
    refine ⟨z.1, z.2.1, Int.le_trans z.2.2 ?_⟩
    rw [List.length_cons, Int.pow_succ, Int.mul_assoc, Int.mul_comm 3]
    exact Int.le_refl _
theorem thr_nn {c : List Sl} (h : okC c) : 0 ≤ thr c := (wts_bound c (0, 1) 0 1 h.2 (by decide) (by decide) (by decide) (by decide)).1
theorem per_pos {c : List Sl} (h : okC c) : 0 < per c := (wts_bound c (0, 1) 0 1 h.2 (by decide) (by decide) (by decide) (by decide)).2.1
theorem pow3_le {n : Nat} (h : n ≤ 4) : (3 : Int) ^ n ≤ 81 := by
  have : n = 0 ∨ n = 1 ∨ n = 2 ∨ n = 3 ∨ n = 4 := by omega
  rcases this with e | e | e | e | e <;> subst e <;> decide
theorem per_le {c : List Sl} (h : okC c) : per c ≤ 81 := by
  have := (wts_bound c (0, 1) 0 1 h.2 (by decide) (by decide) (by decide) (by decide)).2.2
  have := pow3_le h.1
  show (wts c (0, 1)).2 ≤ 81
  omega
theorem wts_thr_le : ∀ (c : List Sl) (p : Int × Int), (∀ s, s ∈ c → okS s) → 0 < p.2 → (wts c p).1 ≤ p.1 + 61 * p.2 * c.length * 3 ^ c.length
  | [], p, _, _ => by simp [wts]
  | s :: c, p, h, h3 => by
    have hs := h s List.mem_cons_self
    have a1 := absB_nn s.1
    have a2 := absB_nn s.2.1
    have b1 := absB_le hs.1
    have b2 := absB_le hs.2.1
    have n1 : 1 ≤ (s.2.2.natAbs : Int) ∧ (s.2.2.natAbs : Int) ≤ 3 := by
      obtain ⟨_, _, x, y, z⟩ := hs
      omega
    have e : wts (s :: c) p = wts c (p.1 + p.2 * (1 + absB s.1 + absB s.2.1), p.2 * (s.2.2.natAbs : Int)) := rfl
    rw [e]
    have k2 : 0 < p.2 * (s.2.2.natAbs : Int) := Int.mul_pos h3 (by omega)
    have z := wts_thr_le c (p.1 + p.2 * (1 + absB s.1 + absB s.2.1), p.2 * (s.2.2.natAbs : Int)) (fun s hs => h s (List.mem_cons_of_mem _ hs)) k2
    refine Int.le_trans z ?_
    show p.1 + p.2 * (1 + absB s.1 + absB s.2.1) + 61 * (p.2 * (s.2.2.natAbs : Int)) * c.length * 3 ^ c.length ≤ p.1 + 61 * p.2 * ((c.length + 1 : Nat) : Int) * 3 ^ (c.length + 1)
    have p3 : (1 : Int) ≤ 3 ^ c.length := by
      have : (0 : Int) < 3 ^ c.length := Int.pow_pos (by decide)
      omega
    have u1 : p.2 * (1 + absB s.1 + absB s.2.1) ≤ p.2 * 61 := Int.mul_le_mul_of_nonneg_left (by omega) (by omega)
    have u2 : p.2 * (s.2.2.natAbs : Int) ≤ p.2 * 3 := Int.mul_le_mul_of_nonneg_left n1.2 (by omega)
    have cl : (0 : Int) ≤ (c.length : Int) := Int.natCast_nonneg _
    have u3 : 61 * (p.2 * (s.2.2.natAbs : Int)) * c.length * 3 ^ c.length ≤ 61 * (p.2 * 3) * c.length * 3 ^ c.length := by
      refine Int.mul_le_mul_of_nonneg_right (Int.mul_le_mul_of_nonneg_right (by omega) cl) (by omega)
    have u4 : 61 * p.2 * ((c.length + 1 : Nat) : Int) * 3 ^ (c.length + 1) = 61 * (p.2 * 3) * c.length * 3 ^ c.length + 61 * p.2 * 3 * 3 ^ c.length := by
      rw [Int.pow_succ, Int.natCast_add, Int.mul_add]
      simp only [Int.mul_assoc, Int.mul_comm, Int.mul_left_comm, Int.add_mul, Int.mul_add, Int.natCast_one, Int.mul_one, Int.one_mul]
    have u5 : p.2 * 61 ≤ 61 * p.2 * 3 * 3 ^ c.length := by
      have : p.2 * 61 * 1 ≤ (61 * p.2 * 3) * 3 ^ c.length := Int.mul_le_mul (by omega) p3 (by decide) (by omega)
      omega
    omega
theorem thr_le {c : List Sl} (h : okC c) : thr c ≤ 20000 := by
  have z := wts_thr_le c (0, 1) h.2 (by decide)
  have h4 := h.1
  show (wts c (0, 1)).1 ≤ 20000
  have : c.length = 0 ∨ c.length = 1 ∨ c.length = 2 ∨ c.length = 3 ∨ c.length = 4 := by omega
  rcases this with e | e | e | e | e <;> rw [e] at z <;> exact Int.le_trans z (by decide)
end Sm

namespace Sc
open PySem PySem.Spec PyProof.Rows L2 Sm
/-! ### promises -/
def psp {α : Type} (enc : α → List Dt) (pre : α → Prop) (res : α → Dt) : Sp2 := fun ds S Q _ => ∃ a, ds = enc a ∧ pre a ∧ Q (res a) S
theorem psp.mono {α : Type} {enc : α → List Dt} {pre : α → Prop} {res : α → Dt} : (psp enc pre res).Mono := ⟨fun ds S Q Q' E E' h _ ⟨a, e, p, q⟩ => ⟨a, e, p, h _ _ q⟩⟩
theorem psp.len {α : Type} {enc : α → List Dt} {pre : α → Prop} {res : α → Dt} {n : Nat} (h : ∀ a, (enc a).length = n) : ∀ ds S Q E, psp enc pre res ds S Q E → ds.length = n := fun ds S Q E ⟨a, e, _, _⟩ => by rw [e]; exact h a
/-! ### data of the program -/
def dO : Option Int → Dt
  | none => .non
  | some i => .int i
def dS (s : Sl) : Dt := .tup [dO s.1, dO s.2.1, .int s.2.2]
def dCh (c : List Sl) : Dt := .tup (c.map dS)
def dPg (p : Pg) : Dt := .tup [.int p.1, .int p.2.1, .int p.2.2]
def dCl (p : Option Int × Option Int × Int) : Dt := .tup [dO p.1, dO p.2.1, .int p.2.2]
/-- no mutable object within -/
inductive Nr : Dt → Prop
  | non : Nr .non
  | bl (b : Bool) : Nr (.bl b)
  | int (i : Int) : Nr (.int i)
  | str (x : Str) : Nr (.str x)
  | tup {ds : List Dt} (h : ∀ d, d ∈ ds → Nr d) : Nr (.tup ds)
  | lst {ds : List Dt} (h : ∀ d, d ∈ ds → Nr d) : Nr (.lst ds)
def isInt (d : Dt) (lo hi : Int) : Bool := match d with
  | .int i => decide (lo ≤ i ∧ i ≤ hi)
  | _ => false
def isBnd (d : Dt) : Bool := isN d || isInt d (-30) 30
def isStp (d : Dt) : Bool := match d with
  | .int i => decide (-3 ≤ i ∧ i ≤ 3) && decide (i ≠ 0)
  | _ => false
def isSlc (d : Dt) : Bool := match d with
  | .tup [a, b, c] => isBnd a && isBnd b && isStp c
  | _ => false
def isChn (d : Dt) : Bool := match d with
  | .tup ds => decide (ds.length ≤ 4) && ds.all isSlc
  | _ => false
theorem dO_nr (o : Option Int) : Nr (dO o) := by cases o; exact .non; exact .int _
theorem dS_nr (s : Sl) : Nr (dS s) := .tup fun d h => by
  rcases List.mem_cons.mp h with e | h
  · subst e; exact dO_nr _
  rcases List.mem_cons.mp h with e | h
  · subst e; exact dO_nr _
  rcases List.mem_cons.mp h with e | h
  · subst e; exact .int _
  · cases h
theorem dCh_nr (c : List Sl) : Nr (dCh c) := .tup fun d h => by
  obtain ⟨s, _, e⟩ := List.mem_map.mp h
  subst e
  exact dS_nr s
theorem dO_isBnd {o : Option Int} (h : okB o) : isBnd (dO o) = true := by
  cases o with
  | none => rfl
  | some i => have := h i rfl; simp [isBnd, dO, isN, isInt, this]
theorem dS_isSlc {s : Sl} (h : okS s) : isSlc (dS s) = true := by
  obtain ⟨h1, h2, h3, h4, h5⟩ := h
  simp [isSlc, dS, dO_isBnd h1, dO_isBnd h2, isStp, h3, h4, h5]
theorem dCh_isChn {c : List Sl} (h : okC c) : isChn (dCh c) = true := by
  have : (c.map dS).all isSlc = true := by
    rw [List.all_eq_true]
    intro d hd
    obtain ⟨s, hs, e⟩ := List.mem_map.mp hd
    subst e
    exact dS_isSlc (h.2 s hs)
  simp only [isChn, dCh, this, List.length_map, h.1, decide_true, Bool.and_self]
/-! ### isinstance of such data -/
def tyN : Dt → String
  | .non => "NoneType" | .bl _ => "bool" | .int _ => "int" | .str _ => "str" | .tup _ => "tuple" | .lst _ => "list" | .ref _ => "list"
theorem tyName_nr {S : Cells} {d : Dt} (h : Nr d) : tyName S d = some (tyN d) := by cases h <;> rfl
def isiN (T : String) (d : Dt) : Bool := match d with
  | .bl _ => T == "bool" || T == "int"
  | .int _ => T == "int"
  | .tup _ => T == "tuple"
  | .lst _ => T == "list"
  | .str _ => T == "str"
  | _ => false
theorem kb_NoneType_int : kitB "NoneType" "int" = some false := by decide +kernel
theorem kb_bool_int : kitB "bool" "int" = some true := by decide +kernel
theorem kb_int_int : kitB "int" "int" = some true := by decide +kernel
theorem kb_str_int : kitB "str" "int" = some false := by decide +kernel
theorem kb_tuple_int : kitB "tuple" "int" = some false := by decide +kernel
theorem kb_list_int : kitB "list" "int" = some false := by decide +kernel
theorem isi_int {S : Cells} {d : Dt} (h : Nr d) : isiD S "int" d = some (isiN "int" d) := by
  unfold isiD
  rw [tyName_nr h]
  cases h with
  | non => exact kb_NoneType_int
  | bl b => exact kb_bool_int
  | int i => exact kb_int_int
  | str x => exact kb_str_int
  | tup h => exact kb_tuple_int
  | lst h => exact kb_list_int
theorem kb_NoneType_bool : kitB "NoneType" "bool" = some false := by decide +kernel
theorem kb_bool_bool : kitB "bool" "bool" = some true := by decide +kernel
theorem kb_int_bool : kitB "int" "bool" = some false := by decide +kernel
theorem kb_str_bool : kitB "str" "bool" = some false := by decide +kernel
theorem kb_tuple_bool : kitB "tuple" "bool" = some false := by decide +kernel
theorem kb_list_bool : kitB "list" "bool" = some false := by decide +kernel
theorem isi_bool {S : Cells} {d : Dt} (h : Nr d) : isiD S "bool" d = some (isiN "bool" d) := by
  unfold isiD
  rw [tyName_nr h]
  cases h with
  | non => exact kb_NoneType_bool
  | bl b => exact kb_bool_bool
  | int i => exact kb_int_bool
  | str x => exact kb_str_bool
  | tup h => exact kb_tuple_bool
  | lst h => exact kb_list_bool
theorem kb_NoneType_tuple : kitB "NoneType" "tuple" = some false := by decide +kernel
theorem kb_bool_tuple : kitB "bool" "tuple" = some false := by decide +kernel
theorem kb_int_tuple : kitB "int" "tuple" = some false := by decide +kernel
theorem kb_str_tuple : kitB "str" "tuple" = some false := by decide +kernel
theorem kb_tuple_tuple : kitB "tuple" "tuple" = some true := by decide +kernel
theorem kb_list_tuple : kitB "list" "tuple" = some false := by decide +kernel
theorem isi_tuple {S : Cells} {d : Dt} (h : Nr d) : isiD S "tuple" d = some (isiN "tuple" d) := by
  unfold isiD
  rw [tyName_nr h]
  cases h with
  | non => exact kb_NoneType_tuple
  | bl b => exact kb_bool_tuple
  | int i => exact kb_int_tuple
  | str x => exact kb_str_tuple
  | tup h => exact kb_tuple_tuple
  | lst h => exact kb_list_tuple
theorem kb_NoneType_str : kitB "NoneType" "str" = some false := by decide +kernel
theorem kb_bool_str : kitB "bool" "str" = some false := by decide +kernel
theorem kb_int_str : kitB "int" "str" = some false := by decide +kernel
theorem kb_str_str : kitB "str" "str" = some true := by decide +kernel
theorem kb_tuple_str : kitB "tuple" "str" = some false := by decide +kernel
theorem kb_list_str : kitB "list" "str" = some false := by decide +kernel
theorem isi_str {S : Cells} {d : Dt} (h : Nr d) : isiD S "str" d = some (isiN "str" d) := by
  unfold isiD
  rw [tyName_nr h]
  cases h with
  | non => exact kb_NoneType_str
  | bl b => exact kb_bool_str
  | int i => exact kb_int_str
  | str x => exact kb_str_str
  | tup h => exact kb_tuple_str
  | lst h => exact kb_list_str
/-! ### the promises of slices.py -/
def sp_is_integer : Sp2 := psp (α := Dt × Int × Int) (fun a => [a.1, .int a.2.1, .int a.2.2]) (fun a => Nr a.1) (fun a => .bl (isInt a.1 a.2.1 a.2.2))
def sp_is_bound : Sp2 := psp (α := Dt) (fun a => [a]) Nr (fun a => .bl (isBnd a))
def sp_is_step : Sp2 := psp (α := Dt) (fun a => [a]) Nr (fun a => .bl (isStp a))
def sp_is_slice : Sp2 := psp (α := Dt) (fun a => [a]) Nr (fun a => .bl (isSlc a))
def sp_is_chain : Sp2 := psp (α := Dt) (fun a => [a]) (fun a => Nr a) (fun a => .bl (isChn a))
def sp_require_chain : Sp2 := psp (α := Dt) (fun a => [a]) (fun a => Nr a ∧ isChn a = true) (fun _ => .non)
/-! ### the promises of forms.py, compare.py -/
def sp_threshold_of : Sp2 := psp (α := List Sl) (fun c => [dCh c]) okC (fun c => .int (thr c))
def sp_period_of : Sp2 := psp (α := List Sl) (fun c => [dCh c]) okC (fun c => .int (per c))
def sp_threshold : Sp2 := psp (α := List Sl) (fun c => [dCh c]) okC (fun c => .int (thr c))
def sp_period : Sp2 := psp (α := List Sl) (fun c => [dCh c]) okC (fun c => .int (per c))
def sp_common_multiple : Sp2 := psp (α := Int × Int) (fun a => [.int a.1, .int a.2]) (fun a => 0 < a.1 ∧ 0 < a.2 ∧ a.1 ≤ 1000000000 ∧ a.2 ≤ 1000000000) (fun a => .int (lcmI a.1 a.2))
def sp_last_threshold : Sp2 := psp (α := List Sl × List Sl) (fun a => [dCh a.1, dCh a.2]) (fun a => okC a.1 ∧ okC a.2) (fun a => .int (lastT a.1 a.2))
def sp_both_periods : Sp2 := psp (α := List Sl × List Sl) (fun a => [dCh a.1, dCh a.2]) (fun a => okC a.1 ∧ okC a.2) (fun a => .int (bothP a.1 a.2))
def sp_bound_for : Sp2 := psp (α := List Sl × List Sl) (fun a => [dCh a.1, dCh a.2]) (fun a => okC a.1 ∧ okC a.2) (fun a => .int (bnd a.1 a.2))
def sp_require_both : Sp2 := psp (α := List Sl × List Sl) (fun a => [dCh a.1, dCh a.2]) (fun a => okC a.1 ∧ okC a.2) (fun _ => .non)
def sp_compare_bound : Sp2 := psp (α := List Sl × List Sl) (fun a => [dCh a.1, dCh a.2]) (fun a => okC a.1 ∧ okC a.2) (fun a => .int (bnd a.1 a.2))
theorem dS_eq (s : Sl) : dS s = .tup [dO s.1, dO s.2.1, .int s.2.2] := rfl
/-! ### the promises of the law's own reckoning -/
def sp__law_part : Sp2 := psp (α := Sl × Int) (fun a => [dS a.1, .int a.2]) (fun a => okS a.1 ∧ 0 ≤ a.2) (fun a => .tup [.int (endsOf a.1 a.2).1, .int (manyOf a.1 a.2)])
def sp__law_shown : Sp2 := psp (α := List Sl × Int) (fun a => [dCh a.1, .int a.2]) (fun a => (∀ s, s ∈ a.1 → okS s) ∧ 0 ≤ a.2 ∧ a.2 ≤ 10 ^ 18) (fun a => dCl (clean a.1 a.2))
def sp__law_weights : Sp2 := psp (α := List Sl) (fun c => [dCh c]) okC (fun c => .tup [.int (thr c), .int (per c)])
def sp__law_multiple : Sp2 := psp (α := Int × Int) (fun a => [.int a.1, .int a.2]) (fun a => 0 < a.1 ∧ 0 < a.2) (fun a => .int (lcmI a.1 a.2))
def sp__law_limit : Sp2 := psp (α := List Sl × List Sl) (fun a => [dCh a.1, dCh a.2]) (fun a => okC a.1 ∧ okC a.2) (fun a => .tup [.int (lastT a.1 a.2), .int (bothP a.1 a.2)])
def sp__law_unlike : Sp2 := psp (α := List Sl × List Sl) (fun a => [dCh a.1, dCh a.2]) (fun a => okC a.1 ∧ okC a.2) (fun a => dO (firstD a.1 a.2))
/-- start or 0 -/
theorem or0 {i : Nat} {o : Option Int} {x : XK2} {ds : Ds} {S : Cells} {Q : QE} (h : ds[i]? = some (some (dO o))) (q : Q (.int (o.getD 0)) S) : dOrT (dVar i) (dC (.int 0)) x ds S Q := by
  refine ⟨_, h, ?_⟩
  cases o with
  | none => exact ⟨false, rfl, q⟩
  | some i =>
    refine ⟨_, rfl, ?_⟩
    by_cases h : i = 0
    · subst h
      exact q
    · rw [if_pos (by simpa using h)]
      exact q
theorem abs_int (i : Int) : (if i < 0 then -i else i) = (i.natAbs : Int) := by
  split <;> omega
theorem abs_eq {o : Option Int} : (if o.getD 0 < 0 then -o.getD 0 else o.getD 0) = absB o := by
  unfold absB
  split <;> omega
/-! ### short words -/
theorem iteP {c : Prop} [Decidable c] {A B : Prop} (h : c) (a : A) : if c then A else B := by
  rw [if_pos h]
  exact a
theorem iteN {c : Prop} [Decidable c] {A B : Prop} (h : ¬ c) (b : B) : if c then A else B := by
  rw [if_neg h]
  exact b
theorem nT {b : Bool} (h : b = false) : ¬ b = true := by rw [h]; decide
theorem asQ_tup {S : Cells} {es : List Dt} : asQ S (.tup es) = some es := rfl
theorem asQ_lst {S : Cells} {es : List Dt} : asQ S (.lst es) = some es := rfl
theorem asL_lst {S : Cells} {es : List Dt} : asL S (.lst es) = some es := rfl
theorem asT_tup {es : List Dt} : asT (.tup es) = some es := rfl
theorem asQ_ref {S : Cells} {a : Addr} {es : List Dt} (h : S a = some (.lst es)) : asQ S (.ref a) = some es := by
  show (match S a with | some (.lst ds) => some ds | _ => none) = some es
  rw [h]
theorem asL_ref {S : Cells} {a : Addr} {es : List Dt} (h : S a = some (.lst es)) : asL S (.ref a) = some es := asQ_ref h
theorem asQ_put {S : Cells} {a : Addr} {es : List Dt} : asQ (S.put a (.lst es)) (.ref a) = some es := asQ_ref Cells.put_same
theorem asL_put {S : Cells} {a : Addr} {es : List Dt} : asL (S.put a (.lst es)) (.ref a) = some es := asQ_ref Cells.put_same
theorem sEq_ii {i j : Int} : sEq (.int i) (.int j) = some (decide (i = j)) := rfl
theorem sEq_bb {i j : Bool} : sEq (.bl i) (.bl j) = some (decide (i = j)) := rfl
theorem sEq_ss {i j : Str} : sEq (.str i) (.str j) = some (decide (i = j)) := rfl
theorem sEq_nn : sEq .non .non = some true := rfl
theorem sEq_ni {j : Int} : sEq .non (.int j) = some false := rfl
theorem sEq_in {i : Int} : sEq (.int i) .non = some false := rfl
theorem isN_int {i : Int} : isN (.int i) = false := rfl
theorem isN_non : isN .non = true := rfl
theorem truD_int {S : Cells} {i : Int} : truD S (.int i) = some (i != 0) := rfl
theorem truD_non {S : Cells} : truD S .non = some false := rfl
/-! ### places of short lists -/
theorem at_0 {α : Type} {a : α} {l : List α} : atI (a :: l) 0 = some a := by
  unfold atI ixN
  rw [if_pos (Int.le_refl 0), if_pos (by rw [List.length_cons]; omega)]
  rfl
theorem at_1 {α : Type} {a b : α} {l : List α} : atI (a :: b :: l) 1 = some b := by
  unfold atI ixN
  rw [if_pos (by omega), if_pos (by rw [List.length_cons, List.length_cons]; omega)]
  rfl
theorem at_2 {α : Type} {a b c : α} {l : List α} : atI (a :: b :: c :: l) 2 = some c := by
  unfold atI ixN
  rw [if_pos (by omega), if_pos (by rw [List.length_cons, List.length_cons, List.length_cons]; omega)]
  rfl
theorem ix20 : ixN 2 0 = some 0 := rfl
theorem ix21 : ixN 2 1 = some 1 := rfl
theorem at_get {α : Type} {l : List α} {i : Int} (h0 : 0 ≤ i) (h1 : i < l.length) : ∃ a, atI l i = some a ∧ a ∈ l ∧ l[i.toNat]? = some a := by
  unfold atI ixN
  rw [if_pos h0, if_pos h1]
  have hl : i.toNat < l.length := by omega
  exact ⟨l[i.toNat], List.getElem?_eq_getElem hl, List.getElem_mem hl, List.getElem?_eq_getElem hl⟩
/-! ### the drawn numbers -/
def Bag (S : Cells) (b : Addr) : Prop := ∃ c s, S b = some (.lst [.int c, .int s])
theorem Bag.put {S : Cells} {b : Addr} {c s : Int} : Bag (S.put b (.lst [.int c, .int s])) b := ⟨c, s, Cells.put_same⟩
def bsp {α β : Type} (enc : α → List Dt) (pre : α → Prop) (post : α → β → Prop) (res : β → Dt) : Sp2 := fun ds S Q _ => ∃ b a, ds = .ref b :: enc a ∧ Bag S b ∧ pre a ∧ ∀ r c s, post a r → Q (res r) (S.put b (.lst [.int c, .int s]))
theorem bsp.mono {α β : Type} {enc : α → List Dt} {pre : α → Prop} {post : α → β → Prop} {res : β → Dt} : (bsp enc pre post res).Mono := ⟨fun ds S Q Q' E E' h _ ⟨b, a, e, hb, p, q⟩ => ⟨b, a, e, hb, p, fun r c s k => h _ _ (q r c s k)⟩⟩
theorem bsp.len {α β : Type} {enc : α → List Dt} {pre : α → Prop} {post : α → β → Prop} {res : β → Dt} {n : Nat} (h : ∀ a, (enc a).length + 1 = n) : ∀ ds S Q E, bsp enc pre post res ds S Q E → ds.length = n := fun ds S Q E ⟨b, a, e, _, _⟩ => by rw [e]; exact h a
def sp__law_take : Sp2 := bsp (α := Int) (β := Int) (fun n => [.int n]) (fun n => 0 < n ∧ n ≤ 10 ^ 16) (fun n r => 0 ≤ r ∧ r < n) .int
/-- one of a list -/
def sp__law_of : Sp2 := bsp (α := List Dt) (β := Dt) (fun l => [.lst l]) (fun l => 0 < l.length ∧ l.length ≤ 100000) (fun l d => d ∈ l) id
def inW (w : Int) (o : Option Int) : Prop := ∀ i, o = some i → -w ≤ i ∧ i ≤ w
def slW (w : Int) (s : Sl) : Prop := inW w s.1 ∧ inW w s.2.1 ∧ -3 ≤ s.2.2 ∧ s.2.2 ≤ 3 ∧ s.2.2 ≠ 0
def chW (m : Int) (w : Int) (c : List Sl) : Prop := (c.length : Int) ≤ m ∧ ∀ s, s ∈ c → slW w s
def sp__law_bound : Sp2 := bsp (α := Int) (β := Option Int) (fun w => [.int w]) (fun w => 1 ≤ w ∧ w ≤ 30) (fun w o => inW w o) dO
def sp__law_slice : Sp2 := bsp (α := Int) (β := Sl) (fun w => [.int w]) (fun w => 1 ≤ w ∧ w ≤ 30) (fun w s => slW w s) dS
def sp__law_chain : Sp2 := bsp (α := Int × Int) (β := List Sl) (fun a => [.int a.1, .int a.2]) (fun a => 0 ≤ a.1 ∧ a.1 ≤ 100 ∧ 1 ≤ a.2 ∧ a.2 ≤ 30) (fun a c => chW a.1 a.2 c) dCh
/-- the script at k, a new bag -/
def sp__law_bag : Sp2 := fun ds S Q _ => ∃ (ns : List Int) (k : Int), ds = [.lst (ns.map Dt.int), .int k] ∧ 0 ≤ k ∧ k ≤ 1000 ∧ ∀ p c s, S p = none → Q (.ref p) (S.put p (.lst [.int c, .int s]))
theorem bag_mono : sp__law_bag.Mono := ⟨fun ds S Q Q' E E' h _ ⟨ns, k, e, h0, h1, q⟩ => ⟨ns, k, e, h0, h1, fun p c s hp => h _ _ (q p c s hp)⟩⟩
theorem bag_len : ∀ ds S Q E, sp__law_bag ds S Q E → ds.length = 2 := fun ds S Q E ⟨ns, k, e, _⟩ => by rw [e]; rfl
end Sc

namespace Sc
open PySem PySem.Spec PyProof.Rows L2 Sm
/-! ### loops -/
section
variable {G : TG2} {B : TS2} {x : XK2} {D : Ends2} {T : TT2}
theorem loop_rest {α : Type} (enc : α → Dt) (I : List α → Ds → Cells → Prop) (step : ∀ a r ds S (N : Ds → Cells → Prop), I (a :: r) ds S → (∀ ds' S', I r ds' S' → N ds' S') → G (enc a) ds S fun ds1 S1 => B x ⟨N, D.rt, D.nx, N⟩ ds1 S1)
    (done : ∀ ds S, I [] ds S → D.nx ds S) : ∀ (l : List α) ds S, I l ds S → dLoop G B x D (l.map enc) ds S
  | [], ds, S, h => done ds S h
  | a :: r, ds, S, h => step a r ds S _ h fun ds' S' h' => loop_rest enc I step done r ds' S' h'
theorem loop_fold {α β : Type} (enc : α → Dt) (I : β → Ds → Cells → Prop) (f : β → α → β) {l : List α} {b : β} {ds : Ds} {S : Cells} (h0 : I b ds S)
    (step : ∀ b a ds S (N : Ds → Cells → Prop), a ∈ l → I b ds S → (∀ ds' S', I (f b a) ds' S' → N ds' S') → G (enc a) ds S fun ds1 S1 => B x ⟨N, D.rt, D.nx, N⟩ ds1 S1)
    (done : ∀ ds S, I (l.foldl f b) ds S → D.nx ds S) : dLoop G B x D (l.map enc) ds S := by
  refine loop_rest (B := B) enc (fun r ds S => ∃ b', I b' ds S ∧ r.foldl f b' = l.foldl f b ∧ ∀ a, a ∈ r → a ∈ l) ?st ?dn l ds S ⟨b, h0, rfl, fun _ h => h⟩
  case st =>
    intro a r ds S N ⟨b', h, e, m⟩ hN
    exact step b' a ds S N (m a List.mem_cons_self) h fun ds' S' h' => hN ds' S' ⟨f b' a, h', e, fun c hc => m c (List.mem_cons_of_mem _ hc)⟩
  case dn =>
    intro ds S ⟨b', h, e, _⟩
    have e' : b' = l.foldl f b := e
    rw [e'] at h
    exact done ds S h
theorem loop_rng (I : Nat → Ds → Cells → Prop) {lo : Int} {n : Nat} {ds : Ds} {S : Cells} (h0 : I 0 ds S)
    (step : ∀ (i : Nat) ds S (N : Ds → Cells → Prop), i < n → I i ds S → (∀ ds' S', I (i + 1) ds' S' → N ds' S') → G (.int (lo + (i : Int))) ds S fun ds1 S1 => B x ⟨N, D.rt, D.nx, N⟩ ds1 S1)
    (done : ∀ ds S, I n ds S → D.nx ds S) : dLoop G B x D (rng lo n) ds S := by
  unfold rng
  refine loop_rest (B := B) (fun i : Nat => Dt.int (lo + (i : Int))) (fun r ds S => ∃ i : Nat, I i ds S ∧ i + r.length = n ∧ r = List.range' i r.length) ?st ?dn _ ds S ⟨0, h0, by simp, by simp [List.range_eq_range']⟩
  case st =>
    intro a r ds S N ⟨i, h, e, m⟩ hN
    rw [List.length_cons, List.range'_succ] at m
    obtain ⟨rfl, hr⟩ := List.cons.inj m
    rw [List.length_cons] at e
    exact step a ds S N (by omega) h fun ds' S' h' => hN ds' S' ⟨a + 1, h', by omega, hr⟩
  case dn =>
    intro ds S ⟨i, h, e, _⟩
    rw [List.length_nil] at e
    have e' : i = n := by omega
    rw [e'] at h
    exact done ds S h
theorem wh_inv {α : Type} (I : α → Ds → Cells → Prop) (μ : α → Nat) (step : ∀ a ds S (N : Ds → Cells → Prop), I a ds S → (∀ a' ds' S', μ a' < μ a → I a' ds' S' → N ds' S') → T x ds S fun k S1 => if k = true then B x ⟨N, D.rt, D.nx, N⟩ ds S1 else D.nx ds S1)
    {a : α} {ds : Ds} {S : Cells} (h : I a ds S) : dWhile T B x D ds S := by
  have go : ∀ n a ds S, μ a < n → I a ds S → dWhN T B x D n ds S := by
    intro n
    induction n with
    | zero => exact fun a ds S h => absurd h (Nat.not_lt_zero _)
    | succ n ih => exact fun a ds S hl hI => step a ds S _ hI fun a' ds' S' hm h' => ih a' ds' S' (by omega) h'
  exact ⟨μ a + 1, go _ a ds S (Nat.lt_succ_self _) h⟩
end
/-- a comprehension whose elements change nothing -/
theorem comp_map {G : TG2} {Te : TE2} {p : Addr} {ds : Ds} {Q : QE} (g : Dt → Dt) : ∀ (items acc : List Dt) (S : Cells), acc.length + items.length < 100000 →
    (∀ d, d ∈ items → ∀ (S : Cells) (R : QE), R (g d) S → G d ds S fun ds2 S2 => Te x0 ds2 S2 R) → (∀ c, Q (.lst (acc ++ items.map g)) ((S.put p c).del p)) → dComp G dYes Te p ds Q items acc (S.put p (.lst acc))
  | [], acc, S, _, h, q => ⟨Cells.put_same, .inl (by simpa using q _)⟩
  | d :: r, acc, S, hl, h, q => by
    have hl' : acc.length + (r.length + 1) < 100000 := hl
    refine h d List.mem_cons_self _ (fun y S4 => S4 p = some (.lst acc) ∧ acc.length < 100000 ∧ dComp G dYes Te p ds Q r (acc ++ [y]) (S4.put p (.lst (acc ++ [y])))) ⟨Cells.put_same, by omega, ?_⟩
    rw [Cells.put_put]
    refine comp_map g r (acc ++ [g d]) S (by rw [List.length_append, List.length_singleton]; omega) (fun e he => h e (List.mem_cons_of_mem _ he)) fun c => ?_
    have := q c
    simpa using this
theorem del_put {S : Cells} {p : Addr} {c : Cell} (h : S p = none) : (S.put p c).del p = S := by
  funext a
  unfold Cells.del Cells.put
  by_cases e : a = p
  · rw [if_pos e, e, h]
  · rw [if_neg e, if_neg e]
/-- the same, the whole expression -/
theorem lc_map {I : TI2} {G : TG2} {Te : TE2} {x : XK2} {ds : Ds} {S : Cells} {Q : QE} {items : List Dt} (g : Dt → Dt) (hi : ∀ R : List Dt → Cells → Prop, R items S → I x ds S R) (hl : items.length < 100000)
    (h : ∀ d, d ∈ items → ∀ (S : Cells) (R : QE), R (g d) S → G d ds S fun ds2 S2 => Te x0 ds2 S2 R) (q : Q (.lst (items.map g)) S) : dLc I G dYes Te x ds S Q :=
  hi _ fun p hp => comp_map g items [] S (by simpa using hl) h fun c => by
    rw [del_put hp]
    simpa using q
theorem put_comm {S : Cells} {a b : Addr} {x y : Cell} (h : a ≠ b) : (S.put a x).put b y = (S.put b y).put a x := by
  funext c
  unfold Cells.put
  by_cases h1 : c = b
  · rw [if_pos h1, if_neg (by rw [h1]; exact h.symm), if_pos h1]
  · rw [if_neg h1, if_neg h1]
theorem put_self {S : Cells} {a : Addr} {x : Cell} (h : S a = some x) : S.put a x = S := by
  funext c
  unfold Cells.put
  by_cases h1 : c = a
  · rw [if_pos h1, h1, h]
  · rw [if_neg h1]
theorem del_put_ne {S : Cells} {a p : Addr} {x c : Cell} (hp : S p = none) (h : a ≠ p) : ((S.put a x).put p c).del p = S.put a x := del_put (by rw [Cells.put_ne h.symm]; exact hp)
/-- a comprehension whose elements draw from the bag at b -/
theorem comp_bag {β : Type} (res : β → Dt) (good : β → Prop) {G : TG2} {Te : TE2} {p b : Addr} (hbp : b ≠ p) {ds : Ds} {Q : QE} : ∀ (items : List Dt) (acc : List β) (S : Cells) (c s : Int), acc.length + items.length < 100000 → (∀ r, r ∈ acc → good r) →
    (∀ d, d ∈ items → ∀ (S : Cells) (R : QE), Bag S b → (∀ r c s, good r → R (res r) (S.put b (.lst [.int c, .int s]))) → G d ds S fun ds2 S2 => Te x0 ds2 S2 R) →
    (∀ (l : List β) c s k, l.length = acc.length + items.length → (∀ r, r ∈ l → good r) → Q (.lst (l.map res)) (((S.put b (.lst [.int c, .int s])).put p k).del p)) →
    dComp G dYes Te p ds Q items (acc.map res) ((S.put b (.lst [.int c, .int s])).put p (.lst (acc.map res)))
  | [], acc, S, c, s, _, hg, h, q => ⟨Cells.put_same, .inl (q acc c s _ (by simp) hg)⟩
  | d :: r, acc, S, c, s, hl, hg, h, q => by
    have hl' : acc.length + (r.length + 1) < 100000 := hl
    refine h d List.mem_cons_self _ (fun y S4 => S4 p = some (.lst (acc.map res)) ∧ (acc.map res).length < 100000 ∧ dComp G dYes Te p ds Q r (acc.map res ++ [y]) (S4.put p (.lst (acc.map res ++ [y])))) ⟨c, s, by rw [Cells.put_ne hbp]; exact Cells.put_same⟩ fun z c2 s2 hz => ?_
    rw [put_comm (Ne.symm hbp), Cells.put_put]
    refine ⟨Cells.put_same, by rw [List.length_map]; omega, ?_⟩
    rw [Cells.put_put]
    have e : acc.map res ++ [res z] = (acc ++ [z]).map res := by simp
    rw [e]
    refine comp_bag res good hbp r (acc ++ [z]) S c2 s2 (by rw [List.length_append, List.length_singleton]; omega) ?_ (fun e he => h e (List.mem_cons_of_mem _ he)) ?_
    · intro r' hr
      rcases List.mem_append.mp hr with hr | hr
      · exact hg r' hr
      · rw [List.mem_singleton.mp hr]
        exact hz
    · intro l c3 s3 k hl3 hgl
      refine q l c3 s3 k ?_ hgl
      rw [hl3, List.length_append, List.length_singleton, List.length_cons]
      omega
theorem bag_comp {β : Type} (res : β → Dt) (good : β → Prop) {G : TG2} {Te : TE2} {ds : Ds} {S : Cells} {Q : QE} {items : List Dt} {b : Addr} (hb : Bag S b) (hl : items.length < 100000)
    (h : ∀ d, d ∈ items → ∀ (S : Cells) (R : QE), Bag S b → (∀ r c s, good r → R (res r) (S.put b (.lst [.int c, .int s]))) → G d ds S fun ds2 S2 => Te x0 ds2 S2 R)
    (q : ∀ (l : List β) c s, l.length = items.length → (∀ r, r ∈ l → good r) → Q (.lst (l.map res)) (S.put b (.lst [.int c, .int s]))) : ∀ p, S p = none → dComp G dYes Te p ds Q items [] (S.put p (.lst [])) := fun p hp => by
  obtain ⟨c, s, e⟩ := hb
  have hbp : b ≠ p := Cells.ne_new e hp
  have z := comp_bag res good hbp (G := G) (Te := Te) (ds := ds) (Q := Q) items [] S c s (by simpa using hl) (fun _ h => by cases h) h fun l c2 s2 k hl2 hg => by
    rw [del_put_ne hp hbp]
    exact q l c2 s2 (by simpa using hl2) hg
  rw [put_self e] at z
  exact z
end Sc

namespace Sc
open PySem PySem.Spec PyProof.Rows L2 Sm
/-- what the law promises -/
def sp_law : Sp2 := fun ds S Q _ => ∃ ns : List Int, ds = [.lst (ns.map Dt.int)] ∧ ns.length ≤ 63 ∧ ∀ S', Q (.bl true) S'
theorem law_len : ∀ ds S Q E, sp_law ds S Q E → ds.length = 1 := fun ds S Q E ⟨ns, e, _⟩ => by rw [e]; rfl
theorem rps_ints {K : PySem.W.Frag} {I : Hp} : ∀ ns : List Int, Rps K I (ns.map Dt.int) (ns.map V.int)
  | [] => rfl
  | n :: ns => ⟨_, _, rfl, rfl, rps_ints ns⟩
theorem law_in {K : PySem.W.Frag} {H : Hp} {a : Addr} {ns : List Int} (hl : ns.length ≤ 63) (h : SqL K H a (ns.map V.int)) : lift K sp_law [.ref a] H (fun v _ => v = .bl true) fun _ _ _ => False := by
  refine ⟨fun _ => none, [.lst (ns.map Dt.int)], (fun b c e => nomatch e), ⟨_, _, rfl, ⟨a, ns.map V.int, rfl, ?_, rps_ints ns⟩, rfl⟩, ns, rfl, hl, fun S' v H' st r => r⟩
  have e : wo (fun _ => none) H = H := funext fun b => wo_none rfl
  rw [e]
  exact h
/-- the end: the law's promise, over every written part -/
theorem end_walk {l : PySem.W.OpenLaw} {k : Nat} {q : Program} {loose : List Str} {XP : (Str → Option Value) → Heap → Prop} {YP : World → Heap → Prop} {d : DefRec}
    (e63 : l.most = some 63) (nodf : d.params.defaults = []) (room : Room k callerA)
    (F : ∀ (w : World) (mg : Str → Option Value) (fa : Addr) (h : Heap), YP w h → h.Ns mainGlobals mg → mg d.name = some (.ref fa) →
      ∃ (K : PySem.W.Frag) (fd : FuncData), K.In h ∧ (∀ (s : Shared) (u : Value), BindsTo s fd ⟨[u], []⟩ [("_law_script", u)]) ∧
        ∀ base : Heap, K.In base → base.Ns mainGlobals mg → FnOk l.prog w K mg base (L2N.CX l.prog w) k fa fd ["_law_script"] (lift K sp_law)) :
    PySem.W.WalkO q loose XP YP l.row.toRowW d [] (fun f vs => PySem.call f vs) := by
  refine Att.attach_call e63 nodf fun w z0 z1 mg mb fa ob pm cdv doc ad us ns gr yy _ _ _ named sq numz few gens0 => ?_
  obtain ⟨K, fd, inK, binds, keeps⟩ := F w mg fa _ yy gr.T.g named
  refine law_call inK gr.T.g gr.T.b gr.T.builtins gr.T.nolimit gens0 sq numz (Nat.le_trans few (by decide)) room keeps binds (fun H _ hS => law_in few hS) fun H e s' z => ?_
  unfold L2N.CX at z
  obtain ⟨_, _, _, _, _, _, _, _, _, _, _, _, z⟩ := z
  exact z
end Sc

namespace Sc
open PySem PySem.Spec PyProof.Rows L2 Sm
/-! ### equal data -/
theorem rsv_tup {S : Cells} {ds : List Dt} : rsv S (.tup ds) = .tup ds := rfl
theorem rsv_lst {S : Cells} {ds : List Dt} : rsv S (.lst ds) = .lst ds := rfl
theorem deq_self {S : Cells} {d : Dt} {n : Nat} (o : Ok0 n (rsv S d)) (hn : n ≤ 64) : DEq S d d true := ⟨n, n, hn, hn, o, o, by simp⟩
theorem ne_self {S : Cells} {Q : QE} {d : Dt} {n : Nat} (o : Ok0 n (rsv S d)) (hn : n ≤ 64) (q : Q (.bl false) S) : qNeD d d S Q := ⟨true, deq_self o hn, q⟩
theorem eq_self {S : Cells} {Q : QE} {d : Dt} {n : Nat} (o : Ok0 n (rsv S d)) (hn : n ≤ 64) (q : Q (.bl true) S) : qEqD d d S Q := ⟨true, deq_self o hn, q⟩
theorem ok_t2 {i j : Int} : Ok0 1 (.tup [.int i, .int j]) := .tup fun d h => by
  rcases List.mem_cons.mp h with e | h
  · subst e; exact .int _ _
  rcases List.mem_cons.mp h with e | h
  · subst e; exact .int _ _
  cases h
theorem dO_ok (n : Nat) (o : Option Int) : Ok0 n (dO o) := by cases o; exact .non _; exact .int _ _
theorem dS_ok (s : Sl) : Ok0 1 (dS s) := .tup fun d h => by
  rcases List.mem_cons.mp h with e | h
  · subst e; exact dO_ok _ _
  rcases List.mem_cons.mp h with e | h
  · subst e; exact dO_ok _ _
  rcases List.mem_cons.mp h with e | h
  · subst e; exact .int _ _
  cases h
theorem dCh_ok (c : List Sl) : Ok0 2 (dCh c) := .tup fun d h => by
  obtain ⟨s, _, e⟩ := List.mem_map.mp h
  subst e
  exact dS_ok s
theorem dCl_ok (p : Option Int × Option Int × Int) : Ok0 1 (dCl p) := dS_ok p
theorem dO_inj {a b : Option Int} : dO a = dO b ↔ a = b := by
  cases a <;> cases b <;> simp [dO]
theorem dCl_inj {a b : Option Int × Option Int × Int} : dCl a = dCl b ↔ a = b := by
  obtain ⟨a1, a2, a3⟩ := a
  obtain ⟨b1, b2, b3⟩ := b
  simp [dCl, dO_inj]
/-- of the law's own drawing -/
theorem chW_ok {m w : Int} {c : List Sl} (hm : m ≤ 4) (hw : w ≤ 30) (h : chW m w c) : okC c := by
  refine ⟨by have := h.1; omega, fun s hs => ?_⟩
  obtain ⟨h1, h2, h3⟩ := h.2 s hs
  exact ⟨fun i e => by have := h1 i e; omega, fun i e => by have := h2 i e; omega, h3⟩
theorem slW_ok {w : Int} {s : Sl} (hw : w ≤ 30) (h : slW w s) : okS s := by
  obtain ⟨h1, h2, h3⟩ := h
  exact ⟨fun i e => by have := h1 i e; omega, fun i e => by have := h2 i e; omega, h3⟩
theorem lit_ok {c : List Sl} (hl : c.length ≤ 4) (h : c.all (fun s => decide ((s.1.getD 0).natAbs ≤ 30) && decide ((s.2.1.getD 0).natAbs ≤ 30) && decide (-3 ≤ s.2.2) && decide (s.2.2 ≤ 3) && decide (s.2.2 ≠ 0)) = true) : okC c := by
  refine ⟨hl, fun s hs => ?_⟩
  have z := List.all_eq_true.mp h s hs
  simp only [Bool.and_eq_true, decide_eq_true_eq] at z
  obtain ⟨⟨⟨⟨h1, h2⟩, h3⟩, h4⟩, h5⟩ := z
  exact ⟨fun i e => by rw [e] at h1; have h1 : i.natAbs ≤ 30 := h1; omega, fun i e => by rw [e] at h2; have h2 : i.natAbs ≤ 30 := h2; omega, h3, h4, h5⟩
/-- the rounds of a law -/
theorem turns_le (n : Nat) : -1000000000000000000 ≤ (if (8 : Int) < (n : Int) then (8 : Int) else (n : Int)) + 2 ∧ (if (8 : Int) < (n : Int) then (8 : Int) else (n : Int)) + 2 ≤ 10 := by
  split <;> omega
end Sc

namespace Sc
open PySem PySem.Spec PyProof.Rows L2 Sm
local macro_rules | `(tactic| walk_at "wp") => `(tactic| simp only [dRet, dSeq, dIfS, dNext, dDrop, dSet, dAsg, dPar, dPar3, dAug, dVar, dC, dOp, dUn, dTest, dTru, dNot, dAnd, dOr, dAndV, dOrV, dNotV, dIf, dChain, dCall, dCons, dNil, dCB, dTup, dLst, dIsi, dStore, kSub, dYes, dFor, dIt, dItL, dRng1, dRng2, dSl, dNoP, dPart, dMt, dRaise,
  qI, qI0, qAdd, qSub, qMul, qFdiv, qFdivN, qMod, qPow, qLt, qLe, qGt, qGe, qEq, qNe, qIsN, qNotN, qIsB, qNotB, qNeg, qAbs, qMax2, qMin2, qLen, qIx, qTupOf, qLstOf, qSlT, qSlL, qCatT, qRepT, kName, kTup, kCons, kNil, start2, List.map_cons, List.map_nil, List.length_cons, List.length_nil, List.replicate, List.cons_append, List.nil_append, List.append_nil,
  List.getElem?_cons_zero, List.getElem?_cons_succ, List.set_cons_zero, List.set_cons_succ, Option.some.injEq, exists_eq_left', exists_eq_left, Dt.int.injEq, Dt.bl.injEq, Dt.ref.injEq, Dt.tup.injEq, Dt.lst.injEq, Nat.sub_zero, Nat.zero_add, Nat.reduceAdd, Nat.reduceSub, asQ_tup, asQ_lst, asL_lst, asT_tup, asQ_put, asL_put, exists_and_left, List.cons.injEq, and_true, isN_int, isN_non, truD_int, truD_non, at_0, at_1, at_2, ix20, ix21, Cells.put_same, Cells.put_put, Cell.lst.injEq, sEq_ii, sEq_bb, sEq_ss, sEq_nn, sEq_ni, sEq_in, true_and, decide_eq_true_eq, and_assoc])
/-! ### slices.py: what is a slice, a chain -/
def T_is_integer : TS2 :=
  (dRet (dAndV (dIsi "int" (dVar 0)) (dAndV (dNotV (dIsi "bool" (dVar 0))) (dChain qLe qLe (dVar 1) (dVar 0) (dVar 2)))))
theorem pure_is_integer : Pure 3 sp_is_integer T_is_integer := by
  rintro ds S Q E frg ⟨⟨d, lo, hi⟩, rfl, hn, q⟩
  unfold T_is_integer
  walk_at "wp"
  simp only [isi_int hn, isi_bool hn, Option.some.injEq, exists_eq_left']
  cases d <;> simp only [isiN, isInt] at q ⊢ <;> try simpa using q
  rename_i i
  by_cases h1 : lo ≤ i <;> by_cases h2 : i ≤ hi <;> simpa [h1, h2] using q
def T_is_bound : TS2 :=
  (dRet (dOrV (dOp qIsN (dVar 0) (dC .non)) (dCall sp_is_integer (dCons (dVar 0) (dCons (dOp qSub (dC (.int 0)) (dC (.int 30))) (dCons (dC (.int 30)) dNil))))))
theorem pure_is_bound : Pure 1 sp_is_bound T_is_bound := by
  rintro ds S Q E frg ⟨d, rfl, hn, q⟩
  unfold T_is_bound
  walk_at "wp"
  simp only [isBnd] at q
  cases h : isN d
  · refine ⟨(d, -30, 30), rfl, hn, ?_⟩
    simpa [h] using q
  · simpa [h] using q
def T_is_step : TS2 :=
  (dRet (dAndV (dCall sp_is_integer (dCons (dVar 0) (dCons (dOp qSub (dC (.int 0)) (dC (.int 3))) (dCons (dC (.int 3)) dNil)))) (dOp qNe (dVar 0) (dC (.int 0)))))
theorem pure_is_step : Pure 1 sp_is_step T_is_step := by
  rintro ds S Q E frg ⟨d, rfl, hn, q⟩
  unfold T_is_step
  walk_at "wp"
  refine ⟨(d, -3, 3), rfl, hn, _, rfl, ?_⟩
  cases d with
  | int i =>
    simp only [isStp, isInt] at q ⊢
    by_cases h1 : -3 ≤ i ∧ i ≤ 3
    · refine iteP (decide_eq_true h1) ⟨_, rfl, ?_⟩
      simpa [h1] using q
    · refine iteN (nT (decide_eq_false h1)) ?_
      simpa [h1] using q
  | _ => exact q
theorem qlen {es : List Dt} {S : Cells} {Q : QE} (q : Q (.int es.length) S) : qLen [.tup es] S Q := ⟨_, es, rfl, rfl, q⟩
def T_is_slice : TS2 :=
  (dSeq (dIfS (dOr (dNot (dTest (dIsi "tuple" (dVar 0)))) (dTest (dOp qNe (dCB qLen (dCons (dVar 0) dNil)) (dC (.int 3))))) (dRet (dC (.bl false))) dNext)
  (dRet (dAndV (dCall sp_is_bound (dCons (dOp qIx (dVar 0) (dC (.int 0))) dNil)) (dAndV (dCall sp_is_bound (dCons (dOp qIx (dVar 0) (dC (.int 1))) dNil)) (dCall sp_is_step (dCons (dOp qIx (dVar 0) (dC (.int 2))) dNil))))))
theorem pure_is_slice : Pure 1 sp_is_slice T_is_slice := by
  rintro ds S Q E frg ⟨d, rfl, hn, q⟩
  unfold T_is_slice
  walk_at "wp"
  refine ⟨_, isi_tuple hn, ?_⟩
  cases hn with
  | tup h =>
    rename_i es
    refine iteN (nT (by rfl)) ⟨es, rfl, ?_⟩
    by_cases h3 : (es.length : Int) = 3
    · obtain ⟨a, b, c, rfl⟩ : ∃ a b c, es = [a, b, c] := by
        match es, h3 with
        | [a, b, c], _ => exact ⟨a, b, c, rfl⟩
        | [], h => simp at h
        | [_], h => simp at h
        | [_, _], h => simp at h
        | _ :: _ :: _ :: _ :: l, h => simp at h; omega
      refine iteN (by simp) ⟨_, rfl, _, at_0, a, rfl, h a (by simp), _, rfl, ?_⟩
      simp only [isSlc] at q
      refine ite2 (fun h1 => ?_) (fun h1 => ?_)
      · rw [h1, Bool.true_and] at q
        refine ⟨_, rfl, _, at_1, b, rfl, h b (by simp), _, rfl, ?_⟩
        refine ite2 (fun h2 => ?_) (fun h2 => ?_)
        · rw [h2, Bool.true_and] at q
          exact ⟨_, rfl, _, at_2, c, rfl, h c (by simp), q⟩
        · simpa [h2] using q
      · simpa [h1] using q
    · refine iteP (by simp [h3]) ?_
      have e : isSlc (.tup es) = false := by
        unfold isSlc
        split
        · rename_i heq
          cases heq
          simp at h3
        · rfl
      have q : Q (.bl (isSlc (.tup es))) S := q
      rw [e] at q
      exact q
  | _ => exact q
def T_is_chain : TS2 :=
  (dRet (dAndV (dIsi "tuple" (dVar 0)) (dAndV (dOp qLe (dCB qLen (dCons (dVar 0) dNil)) (dC (.int 4))) (dCB qAll (dCons (dLc (dIt (dVar 0)) (kName 1) dYes (dCall sp_is_slice (dCons (dVar 1) dNil))) dNil)))))
theorem pure_is_chain : Pure 2 sp_is_chain T_is_chain := by
  rintro ds S Q E frg ⟨d, rfl, hn, q⟩
  unfold T_is_chain
  walk_at "wp"
  refine ⟨_, isi_tuple hn, ?_⟩
  cases hn with
  | tup h =>
    rename_i es
    refine iteP rfl ⟨es, rfl, ?_⟩
    simp only [isChn] at q
    by_cases h4 : es.length ≤ 4
    · have h4' : (es.length : Int) ≤ 4 := by omega
      refine iteP h4' ?_
      refine lc_map (items := es) (fun d => .bl (isSlc d)) (fun R r => ⟨_, rfl, es, rfl, r⟩) (by omega) (fun d hd S R r => ?_) ?_
      · exact ⟨d, rfl, d, rfl, h d hd, r⟩
      · refine ⟨_, es.map isSlc, rfl, ?_, ?_⟩
        · show some _ = some _
          rw [List.map_map]
          rfl
        · rw [List.all_map]
          simpa [h4] using q
    · refine iteN (by omega) ?_
      simpa [h4] using q
  | _ => exact q
def T_require_chain (a_InvalidChain : Addr) : TS2 :=
  (dIfS (dNot (dTest (dCall sp_is_chain (dCons (dVar 0) dNil)))) (dRaise a_InvalidChain) dNext)
theorem pure_require_chain (a : Addr) : Pure 1 sp_require_chain (T_require_chain a) := by
  rintro ds S Q E frg ⟨d, rfl, ⟨hn, hc⟩, q⟩
  unfold T_require_chain
  walk_at "wp"
  exact ⟨d, rfl, hn, _, rfl, iteN (by rw [hc]; decide) q⟩
end Sc

namespace Sc
open PySem PySem.Spec PyProof.Rows L2 Sm
local macro_rules | `(tactic| walk_at "wp") => `(tactic| simp only [dRet, dSeq, dIfS, dNext, dDrop, dSet, dAsg, dPar, dPar3, dAug, dVar, dC, dOp, dUn, dTest, dTru, dNot, dAnd, dOr, dAndV, dOrV, dNotV, dIf, dChain, dCall, dCons, dNil, dCB, dTup, dLst, dIsi, dStore, kSub, dYes, dFor, dIt, dItL, dRng1, dRng2, dSl, dNoP, dPart, dMt, dRaise,
  qI, qI0, qAdd, qSub, qMul, qFdiv, qFdivN, qMod, qPow, qLt, qLe, qGt, qGe, qEq, qNe, qIsN, qNotN, qIsB, qNotB, qNeg, qAbs, qMax2, qMin2, qLen, qIx, qTupOf, qLstOf, qSlT, qSlL, qCatT, qRepT, kName, kTup, kCons, kNil, start2, List.map_cons, List.map_nil, List.length_cons, List.length_nil, List.replicate, List.cons_append, List.nil_append, List.append_nil,
  List.getElem?_cons_zero, List.getElem?_cons_succ, List.set_cons_zero, List.set_cons_succ, Option.some.injEq, exists_eq_left', exists_eq_left, Dt.int.injEq, Dt.bl.injEq, Dt.ref.injEq, Dt.tup.injEq, Dt.lst.injEq, Nat.sub_zero, Nat.zero_add, Nat.reduceAdd, Nat.reduceSub, asQ_tup, asQ_lst, asL_lst, asT_tup, asQ_put, asL_put, exists_and_left, List.cons.injEq, and_true, isN_int, isN_non, truD_int, truD_non, at_0, at_1, at_2, ix20, ix21, Cells.put_same, Cells.put_put, Cell.lst.injEq, sEq_ii, sEq_bb, sEq_ss, sEq_nn, sEq_ni, sEq_in, true_and, decide_eq_true_eq, and_assoc])
/-! ### forms.py -/
def T_threshold_of : TS2 :=
  (dSeq (dAsg (dTup (dCons (dC (.int 0)) (dCons (dC (.int 1)) dNil))) (kTup 2 (kCons (kName 1) (kCons (kName 2) kNil))))
  (dSeq (dFor (dIt (dVar 0)) (kTup 3 (kCons (kName 3) (kCons (kName 4) (kCons (kName 5) kNil)))) (dSeq (dAug 1 qAdd (dOp qMul (dVar 2) (dOp qAdd (dOp qAdd (dC (.int 1)) (dCB qAbs (dCons (dOrT (dVar 3) (dC (.int 0))) dNil))) (dCB qAbs (dCons (dOrT (dVar 4) (dC (.int 0))) dNil)))))
  (dAug 2 qMul (dCB qAbs (dCons (dVar 5) dNil)))))
  (dRet (dVar 1))))
theorem pure_threshold_of : Pure 6 sp_threshold_of T_threshold_of := by
  rintro ds S Q E frg ⟨c, rfl, hc, q⟩
  unfold T_threshold_of
  walk_at "wp"
  refine ⟨by decide, _, rfl, ?_⟩
  refine loop_fold dS (fun (b : Int × Int) ds S' => S' = S ∧ ∃ u v w, ds = [some (dCh c), some (.int b.1), some (.int b.2), u, v, w]) (fun p s => (p.1 + p.2 * (1 + absB s.1 + absB s.2.1), p.2 * (s.2.2.natAbs : Int))) (b := (0, 1)) ⟨rfl, _, _, _, rfl⟩ ?_ ?_
  · rintro b s ds S' N hs ⟨rfl, u, v, w, rfl⟩ hN
    rw [dS_eq]
    walk_at "wp"
    refine or0 rfl ?_
    walk_at "wp"
    refine or0 rfl ?_
    walk_at "wp"
    rw [abs_eq, abs_eq, abs_int]
    have o := hc.2 s hs
    have b1 := absB_nn s.1
    have b2 := absB_nn s.2.1
    have b3 := absB_le o.1
    have b4 := absB_le o.2.1
    have h4 := o.2.2
    exact ⟨.inr (by omega), .inr (by omega), hN _ _ ⟨rfl, _, _, _, rfl⟩⟩
  · rintro ds S' ⟨rfl, u, v, w, rfl⟩
    exact ⟨_, rfl, q⟩
def T_period_of : TS2 :=
  (dSeq (dSet 1 (dC (.int 1)))
  (dSeq (dFor (dIt (dVar 0)) (kTup 3 (kCons (kName 2) (kCons (kName 3) (kCons (kName 4) kNil)))) (dAug 1 qMul (dCB qAbs (dCons (dVar 4) dNil))))
  (dRet (dVar 1))))
theorem pure_period_of : Pure 5 sp_period_of T_period_of := by
  rintro ds S Q E frg ⟨c, rfl, hc, q⟩
  unfold T_period_of
  walk_at "wp"
  refine ⟨_, rfl, ?_⟩
  refine loop_fold dS (fun (b : Int × Int) ds S' => S' = S ∧ ∃ u v w, ds = [some (dCh c), some (.int b.2), u, v, w]) (fun p s => (p.1 + p.2 * (1 + absB s.1 + absB s.2.1), p.2 * (s.2.2.natAbs : Int))) (b := (0, 1)) ⟨rfl, _, _, _, rfl⟩ ?_ ?_
  · rintro b s ds S' N hs ⟨rfl, u, v, w, rfl⟩ hN
    rw [dS_eq]
    walk_at "wp"
    rw [abs_int]
    have h4 := (hc.2 s hs).2.2
    exact ⟨.inr (by omega), hN _ _ ⟨rfl, _, _, _, rfl⟩⟩
  · rintro ds S' ⟨rfl, u, v, w, rfl⟩
    exact ⟨_, rfl, q⟩
theorem chain_req {c : List Sl} (h : okC c) : Nr (dCh c) ∧ isChn (dCh c) = true := ⟨dCh_nr c, dCh_isChn h⟩
def T_threshold : TS2 :=
  (dSeq (dDrop (dCall sp_require_chain (dCons (dVar 0) dNil)))
  (dRet (dCall sp_threshold_of (dCons (dVar 0) dNil))))
theorem pure_threshold : Pure 1 sp_threshold T_threshold := by
  rintro ds S Q E frg ⟨c, rfl, hc, q⟩
  unfold T_threshold
  walk_at "wp"
  exact ⟨_, rfl, chain_req hc, c, rfl, hc, q⟩
def T_period : TS2 :=
  (dSeq (dDrop (dCall sp_require_chain (dCons (dVar 0) dNil)))
  (dRet (dCall sp_period_of (dCons (dVar 0) dNil))))
theorem pure_period : Pure 1 sp_period T_period := by
  rintro ds S Q E frg ⟨c, rfl, hc, q⟩
  unfold T_period
  walk_at "wp"
  exact ⟨_, rfl, chain_req hc, c, rfl, hc, q⟩
/-! ### compare.py -/
def T_common_multiple : TS2 :=
  (dSeq (dPar 2 3 (dCons (dVar 0) (dCons (dVar 1) dNil)))
  (dSeq (dWhile (dTru (dVar 3)) (dPar 2 3 (dCons (dVar 3) (dCons (dOp qMod (dVar 2) (dVar 3)) dNil))))
  (dRet (dOp qFdiv (dOp qMul (dVar 0) (dVar 1)) (dVar 2)))))
theorem cdiv_of {i j : Int} (h : 0 < j) (h2 : j ≤ 10 ^ 18) : CDivW i j := wide_div (b := 64) h (by omega) (by decide) (by decide)
theorem pure_common_multiple : Pure 4 sp_common_multiple T_common_multiple := by
  rintro ds S Q E frg ⟨⟨a, b⟩, rfl, ⟨ha, hb, ha2, hb2⟩, q⟩
  unfold T_common_multiple
  walk_at "wp"
  refine wh_inv (fun (p : Nat × Nat) ds S' => S' = S ∧ ds = [some (.int a), some (.int b), some (.int p.1), some (.int p.2)] ∧ p.1.gcd p.2 = a.natAbs.gcd b.natAbs ∧ 0 < p.1) (fun p => p.2) ?_ (a := (a.natAbs, b.natAbs)) ?_
  · rintro ⟨m, n⟩ ds S' N ⟨rfl, rfl, hg, h0⟩ hN
    walk_at "wp"
    have hg : m.gcd n = a.natAbs.gcd b.natAbs := hg
    have h0 : 0 < m := h0
    refine ite2 (fun h => ?_) (fun h => ?_)
    · have hn : 0 < n := by
        have : (n : Int) ≠ 0 := by simpa using h
        omega
      refine ⟨by omega, hN (n, m % n) _ _ (Nat.mod_lt _ hn) ⟨rfl, by rw [Int.natCast_emod], ?_, hn⟩⟩
      rw [← hg]
      show n.gcd (m % n) = m.gcd n
      rw [Nat.gcd_comm m n, Nat.gcd_rec n m, Nat.gcd_comm]
    · have hn : n = 0 := by
        have : (n : Int) = 0 := by simpa using h
        omega
      subst hn
      rw [Nat.gcd_zero_right] at hg
      have hm : m ≤ a.natAbs := by
        rw [hg]
        exact Nat.gcd_le_left _ (by omega)
      refine ⟨.inl (by omega), cdiv_of (by omega) (by omega), ?_⟩
      have e : a * b / (m : Int) = lcmI a b := by
        have e1 : a = (a.natAbs : Int) := by omega
        have e2 : b = (b.natAbs : Int) := by omega
        unfold lcmI
        rw [Nat.lcm, ← hg]
        rw [Int.natCast_ediv, Int.natCast_mul, ← e1, ← e2]
      rw [e]
      exact q
  · refine ⟨rfl, ?_, rfl, by show 0 < a.natAbs; omega⟩
    have e1 : a = (a.natAbs : Int) := by omega
    have e2 : b = (b.natAbs : Int) := by omega
    show _ = [_, _, some (Dt.int ((a.natAbs : Nat) : Int)), some (Dt.int ((b.natAbs : Nat) : Int))]
    rw [← e1, ← e2]
def T_last_threshold : TS2 :=
  (dRet (dCB qMax2 (dCons (dCall sp_threshold_of (dCons (dVar 0) dNil)) (dCons (dCall sp_threshold_of (dCons (dVar 1) dNil)) dNil))))
theorem max_if (i j : Int) : (if j > i then j else i) = max i j := by
  by_cases h : j > i
  · rw [if_pos h]; omega
  · rw [if_neg h]; omega
theorem min_if (i j : Int) : (if j < i then j else i) = min i j := by
  by_cases h : j < i
  · rw [if_pos h]; omega
  · rw [if_neg h]; omega
theorem pure_last_threshold : Pure 2 sp_last_threshold T_last_threshold := by
  rintro ds S Q E frg ⟨⟨c, d⟩, rfl, ⟨hc, hd⟩, q⟩
  unfold T_last_threshold
  walk_at "wp"
  refine ⟨c, rfl, hc, d, rfl, hd, _, rfl, _, rfl, ?_⟩
  rw [max_if]
  exact q
def T_both_periods : TS2 :=
  (dRet (dCall sp_common_multiple (dCons (dCall sp_period_of (dCons (dVar 0) dNil)) (dCons (dCall sp_period_of (dCons (dVar 1) dNil)) dNil))))
theorem pure_both_periods : Pure 2 sp_both_periods T_both_periods := by
  rintro ds S Q E frg ⟨⟨c, d⟩, rfl, ⟨hc, hd⟩, q⟩
  unfold T_both_periods
  walk_at "wp"
  have hc : okC c := hc
  have hd : okC d := hd
  have h1 := per_pos hc
  have h2 := per_pos hd
  have h3 := per_le hc
  have h4 := per_le hd
  exact ⟨c, rfl, hc, d, rfl, hd, (per c, per d), rfl, ⟨h1, h2, by show per c ≤ _; omega, by show per d ≤ _; omega⟩, q⟩
def T_bound_for : TS2 :=
  (dRet (dOp qAdd (dCall sp_last_threshold (dCons (dVar 0) (dCons (dVar 1) dNil))) (dOp qMul (dC (.int 3)) (dCall sp_both_periods (dCons (dVar 0) (dCons (dVar 1) dNil))))))
theorem pure_bound_for : Pure 2 sp_bound_for T_bound_for := by
  rintro ds S Q E frg ⟨⟨c, d⟩, rfl, ⟨hc, hd⟩, q⟩
  unfold T_bound_for
  walk_at "wp"
  exact ⟨(c, d), rfl, ⟨hc, hd⟩, (c, d), rfl, ⟨hc, hd⟩, _, rfl, .inl (by omega), _, rfl, q⟩
def T_require_both : TS2 :=
  (dSeq (dDrop (dCall sp_require_chain (dCons (dVar 0) dNil)))
  (dDrop (dCall sp_require_chain (dCons (dVar 1) dNil))))
theorem pure_require_both : Pure 2 sp_require_both T_require_both := by
  rintro ds S Q E frg ⟨⟨c, d⟩, rfl, ⟨hc, hd⟩, q⟩
  unfold T_require_both
  walk_at "wp"
  exact ⟨_, rfl, chain_req hc, _, rfl, chain_req hd, q⟩
def T_compare_bound : TS2 :=
  (dSeq (dDrop (dCall sp_require_both (dCons (dVar 0) (dCons (dVar 1) dNil))))
  (dRet (dCall sp_bound_for (dCons (dVar 0) (dCons (dVar 1) dNil)))))
theorem pure_compare_bound : Pure 2 sp_compare_bound T_compare_bound := by
  rintro ds S Q E frg ⟨⟨c, d⟩, rfl, h, q⟩
  unfold T_compare_bound
  walk_at "wp"
  exact ⟨(c, d), rfl, h, (c, d), rfl, h, q⟩
end Sc

namespace Sc
open PySem PySem.Spec PyProof.Rows L2 Sm
local macro_rules | `(tactic| walk_at "wp") => `(tactic| simp only [dRet, dSeq, dIfS, dNext, dDrop, dSet, dAsg, dPar, dPar3, dAug, dVar, dC, dOp, dUn, dTest, dTru, dNot, dAnd, dOr, dAndV, dOrV, dNotV, dIf, dChain, dCall, dCons, dNil, dCB, dTup, dLst, dIsi, dStore, kSub, dYes, dFor, dIt, dItL, dRng1, dRng2, dSl, dNoP, dPart, dMt, dRaise,
  qI, qI0, qAdd, qSub, qMul, qFdiv, qFdivN, qMod, qPow, qLt, qLe, qGt, qGe, qEq, qNe, qIsN, qNotN, qIsB, qNotB, qNeg, qAbs, qMax2, qMin2, qLen, qIx, qTupOf, qLstOf, qSlT, qSlL, qCatT, qRepT, kName, kTup, kCons, kNil, start2, List.map_cons, List.map_nil, List.length_cons, List.length_nil, List.replicate, List.cons_append, List.nil_append, List.append_nil,
  List.getElem?_cons_zero, List.getElem?_cons_succ, List.set_cons_zero, List.set_cons_succ, Option.some.injEq, exists_eq_left', exists_eq_left, Dt.int.injEq, Dt.bl.injEq, Dt.ref.injEq, Dt.tup.injEq, Dt.lst.injEq, Nat.sub_zero, Nat.zero_add, Nat.reduceAdd, Nat.reduceSub, asQ_tup, asQ_lst, asL_lst, asT_tup, asQ_put, asL_put, exists_and_left, List.cons.injEq, and_true, isN_int, isN_non, truD_int, truD_non, at_0, at_1, at_2, ix20, ix21, Cells.put_same, Cells.put_put, Cell.lst.injEq, sEq_ii, sEq_bb, sEq_ss, sEq_nn, sEq_ni, sEq_in, true_and, decide_eq_true_eq, and_assoc])
/-! ### the law's draws -/
def T__law_bag : TS2 :=
  (dSeq (dSet 2 (dC (.int 0)))
  (dSeq (dIfS (dTest (dOp qLt (dVar 1) (dCB qLen (dCons (dVar 0) dNil)))) (dSet 2 (dOp qMod (dOp qIx (dVar 0) (dVar 1)) (dOp qPow (dC (.int 10)) (dC (.int 60))))) dNext)
  (dSeq (dSet 3 (dOp qAdd (dC (.int 1)) (dOp qMod (dOp qAdd (dOp qAdd (dOp qAdd (dOp qMul (dOp qMod (dVar 2) (dC (.int 2147483629))) (dC (.int 16807))) (dOp qMul (dOp qMul (dC (.int 40009)) (dVar 1)) (dVar 1))) (dOp qMul (dC (.int 7919)) (dVar 1))) (dC (.int 1009))) (dC (.int 2147483645)))))
  (dSeq (dIfS (dTest (dOp qLt (dVar 2) (dOp qPow (dC (.int 10)) (dC (.int 18))))) (dRet (dLst (dCons (dC (.int 0)) (dCons (dVar 3) dNil)))) dNext)
  (dRet (dLst (dCons (dVar 2) (dCons (dVar 3) dNil))))))))
theorem pure__law_bag : Pure 4 sp__law_bag T__law_bag := by
  rintro ds S Q E frg ⟨ns, k, rfl, hk0, hk1, q⟩
  unfold T__law_bag
  walk_at "wp"
  have p1 : CPow 10 60 := ⟨by decide, by decide, by decide⟩
  have p2 : CPow 10 18 := ⟨by decide, by decide, by decide⟩
  refine ite2 (fun h => ?_) (fun h => ?_)
  · obtain ⟨a, h1, h2, _⟩ := at_get hk0 h
    obtain ⟨i, _, rfl⟩ := List.mem_map.mp h2
    refine ⟨_, h1, p1, i, rfl, by decide, by decide, .inr (by omega), .inl (by omega), .inr (by omega), .inl (by omega), by decide, p2, ?_⟩
    exact ite2 (fun _ => ⟨by decide, .inr fun p hp => q p _ _ hp⟩) (fun _ => ⟨by decide, .inr fun p hp => q p _ _ hp⟩)
  · refine ⟨by decide, .inr (by omega), .inl (by omega), .inr (by omega), .inl (by omega), by decide, p2, ?_⟩
    exact ite2 (fun _ => ⟨by decide, .inr fun p hp => q p _ _ hp⟩) (fun _ => ⟨by decide, .inr fun p hp => q p _ _ hp⟩)
def T__law_take : TS2 :=
  (dSeq (dIfS (dTest (dOp qGt (dOp qIx (dVar 0) (dC (.int 0))) (dC (.int 0)))) (dSeq (dSet 2 (dOp qMod (dOp qIx (dVar 0) (dC (.int 0))) (dVar 1)))
  (dSeq (dStore (dOp qFdiv (dOp qIx (dVar 0) (dC (.int 0))) (dVar 1)) (dVar 0) (dC (.int 0)))
  (dRet (dVar 2)))) dNext)
  (dSeq (dStore (dOp qMod (dOp qMul (dOp qIx (dVar 0) (dC (.int 1))) (dC (.int 48271))) (dC (.int 2147483647))) (dVar 0) (dC (.int 1)))
  (dRet (dOp qMod (dOp qFdiv (dOp qMod (dOp qMul (dOp qFdiv (dOp qIx (dVar 0) (dC (.int 1))) (dC (.int 13))) (dOp qAdd (dOp qMod (dOp qIx (dVar 0) (dC (.int 1))) (dC (.int 32749))) (dC (.int 17)))) (dC (.int 2147483629))) (dC (.int 32))) (dVar 1)))))
theorem pure__law_take : Pure 3 sp__law_take T__law_take := by
  rintro ds S Q E frg ⟨b, n, rfl, ⟨c, s, hb⟩, ⟨hn, hn2⟩, q⟩
  unfold T__law_take
  walk_at "wp"
  simp only [asQ_ref hb, hb]
  walk_at "wp"
  have d1 : CDivW c n := cdiv_of hn (by omega)
  have q : ∀ (r c s : Int), 0 ≤ r ∧ r < n → Q (Dt.int r) (S.put b (Cell.lst [Dt.int c, Dt.int s])) := q
  refine ite2 (fun h => ?_) (fun h => ?_)
  · exact ⟨hn, d1, q _ _ _ ⟨Int.emod_nonneg _ (by omega), Int.emod_lt_of_pos _ hn⟩⟩
  · exact ⟨.inr (by omega), by decide, cdiv_of (by decide) (by decide), by decide, .inr (by omega), by decide, cdiv_of (by decide) (by decide), hn, q _ _ _ ⟨Int.emod_nonneg _ (by omega), Int.emod_lt_of_pos _ hn⟩⟩
def T__law_of : TS2 :=
  (dRet (dOp qIx (dVar 1) (dCall sp__law_take (dCons (dVar 0) (dCons (dCB qLen (dCons (dVar 1) dNil)) dNil)))))
theorem pure__law_of : Pure 2 sp__law_of T__law_of := by
  rintro ds S Q E frg ⟨b, l, rfl, hb, ⟨h1, h2⟩, q⟩
  unfold T__law_of
  walk_at "wp"
  refine ⟨b, (l.length : Int), rfl, hb, ⟨by omega, by omega⟩, fun r c s ⟨h3, h4⟩ => ?_⟩
  obtain ⟨a, k1, k2, _⟩ := at_get h3 h4
  exact ⟨_, rfl, _, k1, q a c s k2⟩
def T__law_bound : TS2 :=
  (dRet (dCall sp__law_of (dCons (dVar 0) (dCons (dLst (dCons (dC .non) (dCons (dC .non) (dCons (dC (.int 0)) (dCons (dC (.int 1)) (dCons (dUn qNeg (dC (.int 1))) (dCons (dCall sp__law_take (dCons (dVar 0) (dCons (dOp qAdd (dVar 1) (dC (.int 1))) dNil))) (dCons (dOp qSub (dC (.int 0)) (dCall sp__law_take (dCons (dVar 0) (dCons (dOp qAdd (dVar 1) (dC (.int 1))) dNil)))) dNil)))))))) dNil))))
theorem pure__law_bound : Pure 2 sp__law_bound T__law_bound := by
  rintro ds S Q E frg ⟨b, w, rfl, hb, ⟨h1, h2⟩, q⟩
  unfold T__law_bound
  walk_at "wp"
  refine ⟨b, w + 1, rfl, hb, ⟨by omega, by omega⟩, fun r c s ⟨h3, h4⟩ => ?_⟩
  refine ⟨b, w + 1, rfl, Bag.put, ⟨by omega, by omega⟩, fun r2 c2 s2 ⟨h5, h6⟩ => ⟨_, rfl, ?_⟩⟩
  refine ⟨by decide, .inl ⟨b, _, rfl, Bag.put, ⟨by show 0 < 7; decide, by show 7 ≤ 100000; decide⟩, fun d c3 s3 hd => ?_⟩⟩
  rw [Cells.put_put, Cells.put_put]
  have q : ∀ (r : Option Int) (c s : Int), inW w r → Q (dO r) (S.put b (Cell.lst [Dt.int c, Dt.int s])) := q
  have num : ∀ i : Int, -w ≤ i ∧ i ≤ w → Q (.int i) (S.put b (Cell.lst [Dt.int c3, Dt.int s3])) := fun i hi => q (some i) c3 s3 fun j hj => by
    cases hj
    exact hi
  simp only [List.mem_cons, List.not_mem_nil, or_false] at hd
  rcases hd with rfl | rfl | rfl | rfl | rfl | rfl | rfl
  · exact q none c3 s3 fun j hj => nomatch hj
  · exact q none c3 s3 fun j hj => nomatch hj
  · exact num 0 (by omega)
  · exact num 1 (by omega)
  · exact num (-1) (by omega)
  · exact num r (by omega)
  · exact num (0 - r2) (by omega)
def T__law_slice : TS2 :=
  (dRet (dTup (dCons (dCall sp__law_bound (dCons (dVar 0) (dCons (dVar 1) dNil))) (dCons (dCall sp__law_bound (dCons (dVar 0) (dCons (dVar 1) dNil))) (dCons (dCall sp__law_of (dCons (dVar 0) (dCons (dLst (dCons (dC (.int 1)) (dCons (dC (.int 1)) (dCons (dC (.int 2)) (dCons (dUn qNeg (dC (.int 1))) (dCons (dUn qNeg (dC (.int 2))) (dCons (dC (.int 3)) (dCons (dUn qNeg (dC (.int 3))) dNil)))))))) dNil))) dNil)))))
theorem pure__law_slice : Pure 2 sp__law_slice T__law_slice := by
  rintro ds S Q E frg ⟨b, w, rfl, hb, hw, q⟩
  unfold T__law_slice
  walk_at "wp"
  refine ⟨b, w, rfl, hb, hw, fun r c s h1 => ?_⟩
  refine ⟨b, w, rfl, Bag.put, hw, fun r2 c2 s2 h2 => ?_⟩
  refine ⟨by decide, .inl ⟨b, _, rfl, Bag.put, ⟨by decide, by decide⟩, fun d c3 s3 hd => ⟨by decide, ?_⟩⟩⟩
  rw [Cells.put_put, Cells.put_put]
  have q : ∀ (r : Sl) (c s : Int), slW w r → Q (dS r) (S.put b (Cell.lst [Dt.int c, Dt.int s])) := q
  have num : ∀ i : Int, -3 ≤ i ∧ i ≤ 3 ∧ i ≠ 0 → Q (.tup [dO r, dO r2, .int i]) (S.put b (Cell.lst [Dt.int c3, Dt.int s3])) := fun i hi => q (r, r2, i) c3 s3 ⟨h1, h2, hi.1, hi.2.1, hi.2.2⟩
  simp only [List.mem_cons, List.not_mem_nil, or_false] at hd
  rcases hd with rfl | rfl | rfl | rfl | rfl | rfl | rfl <;> exact num _ (by decide)
def T__law_chain : TS2 :=
  (dRet (dCB qTupOf (dCons (dLc (dRng1 (dCall sp__law_take (dCons (dVar 0) (dCons (dOp qAdd (dVar 1) (dC (.int 1))) dNil)))) (kName 3) dYes (dCall sp__law_slice (dCons (dVar 0) (dCons (dVar 2) dNil)))) dNil)))
/-- a comprehension over range(a draw) -/
theorem pure__law_chain : Pure 4 sp__law_chain T__law_chain := by
  rintro ds S Q E frg ⟨b, ⟨m, w⟩, rfl, hb, ⟨h1, h2, hw⟩, q⟩
  have h1 : 0 ≤ m := h1
  have h2 : m ≤ 100 := h2
  unfold T__law_chain
  walk_at "wp"
  unfold dLc
  walk_at "wp"
  refine ⟨b, m + 1, rfl, hb, ⟨by omega, by omega⟩, fun r c s ⟨h3, h4⟩ => ⟨_, rfl, by omega, by omega, ?_⟩⟩
  refine bag_comp dS (slW w) (b := b) Bag.put (by rw [rng_len]; omega) (fun d hd S R hb2 r2 => ?_) (fun l c2 s2 hl hg => ⟨_, rfl, ?_⟩)
  · walk_at "wp"
    exact ⟨b, w, rfl, hb2, hw, r2⟩
  · rw [Cells.put_put]
    refine q l c2 s2 ⟨?_, hg⟩
    rw [hl, rng_len]
    show ((r.toNat : Nat) : Int) ≤ m
    omega
def T__law_part : TS2 :=
  (dSeq (dAsg (dVar 0) (kTup 3 (kCons (kName 2) (kCons (kName 3) (kCons (kName 4) kNil)))))
  (dSeq (dIfS (dTest (dOp qGt (dVar 4) (dC (.int 0)))) (dSeq (dSet 5 (dIf (dTest (dOp qIsN (dVar 2) (dC .non))) (dC (.int 0)) (dIf (dTest (dOp qLt (dVar 2) (dC (.int 0)))) (dCB qMax2 (dCons (dC (.int 0)) (dCons (dOp qAdd (dVar 2) (dVar 1)) dNil))) (dCB qMin2 (dCons (dVar 2) (dCons (dVar 1) dNil))))))
  (dSeq (dSet 6 (dIf (dTest (dOp qIsN (dVar 3) (dC .non))) (dVar 1) (dIf (dTest (dOp qLt (dVar 3) (dC (.int 0)))) (dCB qMax2 (dCons (dC (.int 0)) (dCons (dOp qAdd (dVar 3) (dVar 1)) dNil))) (dCB qMin2 (dCons (dVar 3) (dCons (dVar 1) dNil))))))
  (dRet (dTup (dCons (dVar 5) (dCons (dOp qFdiv (dOp qSub (dOp qAdd (dCB qMax2 (dCons (dC (.int 0)) (dCons (dOp qSub (dVar 6) (dVar 5)) dNil))) (dVar 4)) (dC (.int 1))) (dVar 4)) dNil)))))) dNext)
  (dSeq (dSet 5 (dIf (dTest (dOp qIsN (dVar 2) (dC .non))) (dOp qSub (dVar 1) (dC (.int 1))) (dIf (dTest (dOp qLt (dVar 2) (dC (.int 0)))) (dCB qMax2 (dCons (dUn qNeg (dC (.int 1))) (dCons (dOp qAdd (dVar 2) (dVar 1)) dNil))) (dCB qMin2 (dCons (dVar 2) (dCons (dOp qSub (dVar 1) (dC (.int 1))) dNil))))))
  (dSeq (dSet 6 (dIf (dTest (dOp qIsN (dVar 3) (dC .non))) (dUn qNeg (dC (.int 1))) (dIf (dTest (dOp qLt (dVar 3) (dC (.int 0)))) (dCB qMax2 (dCons (dUn qNeg (dC (.int 1))) (dCons (dOp qAdd (dVar 3) (dVar 1)) dNil))) (dCB qMin2 (dCons (dVar 3) (dCons (dOp qSub (dVar 1) (dC (.int 1))) dNil))))))
  (dRet (dTup (dCons (dVar 5) (dCons (dOp qFdiv (dOp qSub (dOp qAdd (dCB qMax2 (dCons (dC (.int 0)) (dCons (dOp qSub (dVar 5) (dVar 6)) dNil))) (dCB qAbs (dCons (dVar 4) dNil))) (dC (.int 1))) (dCB qAbs (dCons (dVar 4) dNil))) dNil))))))))
theorem pure__law_part : Pure 7 sp__law_part T__law_part := by
  rintro ds S Q E frg ⟨⟨⟨a, b, t⟩, c⟩, rfl, ⟨hs, hc⟩, q⟩
  have hc : 0 ≤ c := hc
  have ht := hs.2.2
  have ht : -3 ≤ t ∧ t ≤ 3 ∧ t ≠ 0 := ht
  have q : Q (.tup [.int (endsOf (a, b, t) c).1, .int (manyOf (a, b, t) c)]) S := q
  unfold T__law_part
  simp only [dS_eq]
  by_cases h0 : 0 < t
  · rw [ends_pos h0, many_pos h0, ← div_max h0] at q
    cases a <;> cases b <;> (simp only [dO, begP, endP, moved_pos hc] at q ⊢; walk_at "wp"; rw [if_pos h0]; simp only [max_if, min_if, Bool.false_eq_true, if_true, if_false])
    · exact ⟨cdiv_of h0 (by omega), by decide, q⟩
    · split <;> rename_i h <;> simp only [h, if_true, if_false] at q <;> exact ⟨cdiv_of h0 (by omega), by decide, q⟩
    · split <;> rename_i h <;> simp only [h, if_true, if_false] at q <;> exact ⟨cdiv_of h0 (by omega), by decide, q⟩
    · split <;> split <;> rename_i h h' <;> simp only [h, h', if_true, if_false] at q <;> exact ⟨cdiv_of h0 (by omega), by decide, q⟩
  · have hn : 0 < -t := by omega
    have ea : (t.natAbs : Int) = -t := by omega
    have e4 : begN a c - endN b c - t - 1 = begN a c - endN b c + -t - 1 := by omega
    rw [ends_neg h0, many_neg h0, e4, ← div_max hn] at q
    cases a <;> cases b <;> (simp only [dO, begN, endN, moved_neg hc] at q ⊢; walk_at "wp"; rw [if_neg h0]; simp only [max_if, min_if, abs_int, ea, Bool.false_eq_true, if_true, if_false])
    · exact ⟨cdiv_of hn (by omega), by decide, q⟩
    · split <;> rename_i h <;> simp only [h, if_true, if_false] at q <;> exact ⟨cdiv_of hn (by omega), by decide, q⟩
    · split <;> rename_i h <;> simp only [h, if_true, if_false] at q <;> exact ⟨cdiv_of hn (by omega), by decide, q⟩
    · split <;> split <;> rename_i h h' <;> simp only [h, h', if_true, if_false] at q <;> exact ⟨cdiv_of hn (by omega), by decide, q⟩
end Sc

namespace Sc
open PySem PySem.Spec PyProof.Rows L2 Sm
local macro_rules | `(tactic| walk_at "wp") => `(tactic| simp only [dRet, dSeq, dIfS, dNext, dDrop, dSet, dAsg, dPar, dPar3, dAug, dVar, dC, dOp, dUn, dTest, dTru, dNot, dAnd, dOr, dAndV, dOrV, dNotV, dIf, dChain, dCall, dCons, dNil, dCB, dTup, dLst, dIsi, dStore, kSub, dYes, dFor, dIt, dItL, dRng1, dRng2, dSl, dNoP, dPart, dMt, dRaise,
  qI, qI0, qAdd, qSub, qMul, qFdiv, qFdivN, qMod, qPow, qLt, qLe, qGt, qGe, qEq, qNe, qIsN, qNotN, qIsB, qNotB, qNeg, qAbs, qMax2, qMin2, qLen, qIx, qTupOf, qLstOf, qSlT, qSlL, qCatT, qRepT, kName, kTup, kCons, kNil, start2, List.map_cons, List.map_nil, List.length_cons, List.length_nil, List.replicate, List.cons_append, List.nil_append, List.append_nil,
  List.getElem?_cons_zero, List.getElem?_cons_succ, List.set_cons_zero, List.set_cons_succ, Option.some.injEq, exists_eq_left', exists_eq_left, Dt.int.injEq, Dt.bl.injEq, Dt.ref.injEq, Dt.tup.injEq, Dt.lst.injEq, Nat.sub_zero, Nat.zero_add, Nat.reduceAdd, Nat.reduceSub, asQ_tup, asQ_lst, asL_lst, asT_tup, asQ_put, asL_put, exists_and_left, List.cons.injEq, and_true, isN_int, isN_non, truD_int, truD_non, at_0, at_1, at_2, ix20, ix21, Cells.put_same, Cells.put_put, Cell.lst.injEq, sEq_ii, sEq_bb, sEq_ss, sEq_nn, sEq_ni, sEq_in, true_and, decide_eq_true_eq, and_assoc])

def T__law_weights : TS2 :=
  (dSeq (dAsg (dTup (dCons (dC (.int 0)) (dCons (dC (.int 1)) dNil))) (kTup 2 (kCons (kName 1) (kCons (kName 2) kNil))))
  (dSeq (dFor (dIt (dVar 0)) (kTup 3 (kCons (kName 3) (kCons (kName 4) (kCons (kName 5) kNil)))) (dSeq (dSet 1 (dOp qAdd (dVar 1) (dOp qMul (dVar 2) (dOp qAdd (dOp qAdd (dC (.int 1)) (dCB qAbs (dCons (dOrT (dVar 3) (dC (.int 0))) dNil))) (dCB qAbs (dCons (dOrT (dVar 4) (dC (.int 0))) dNil))))))
  (dSet 2 (dOp qMul (dVar 2) (dCB qAbs (dCons (dVar 5) dNil))))))
  (dRet (dTup (dCons (dVar 1) (dCons (dVar 2) dNil))))))

theorem pure__law_weights : Pure 6 sp__law_weights T__law_weights := by
  rintro ds S Q E frg ⟨c, rfl, hc, q⟩
  unfold T__law_weights
  walk_at "wp"
  refine ⟨by decide, _, rfl, ?_⟩
  refine loop_fold dS (fun (b : Int × Int) ds S' => S' = S ∧ ∃ u v w, ds = [some (dCh c), some (.int b.1), some (.int b.2), u, v, w]) (fun p s => (p.1 + p.2 * (1 + absB s.1 + absB s.2.1), p.2 * (s.2.2.natAbs : Int))) (b := (0, 1)) ⟨rfl, _, _, _, rfl⟩ ?_ ?_
  · rintro b s ds S' N hs ⟨rfl, u, v, w, rfl⟩ hN
    rw [dS_eq]
    walk_at "wp"
    refine or0 rfl ?_
    walk_at "wp"
    refine or0 rfl ?_
    walk_at "wp"
    rw [abs_eq, abs_eq, abs_int]
    have o := hc.2 s hs
    have b1 := absB_nn s.1
    have b2 := absB_nn s.2.1
    have b3 := absB_le o.1
    have b4 := absB_le o.2.1
    have h4 := o.2.2
    exact ⟨.inr (by omega), .inr (by omega), hN _ _ ⟨rfl, _, _, _, rfl⟩⟩
  · rintro ds S' ⟨rfl, u, v, w, rfl⟩
    exact ⟨_, rfl, _, rfl, by decide, q⟩
def T__law_multiple : TS2 :=
  (dSeq (dSet 2 (dVar 0))
  (dSeq (dWhile (dTest (dOp qNe (dOp qMod (dVar 2) (dVar 1)) (dC (.int 0)))) (dSet 2 (dOp qAdd (dVar 2) (dVar 0))))
  (dRet (dVar 2))))

theorem lcm_le_of {a b k : Nat} (ha : 0 < a) (hk : 0 < k) (h : a * k % b = 0) : a.lcm b ≤ a * k :=
  Nat.le_of_dvd (Nat.mul_pos ha hk) (Nat.lcm_dvd (Nat.dvd_mul_right a k) (Nat.dvd_of_mod_eq_zero h))
theorem pure__law_multiple : Pure 3 sp__law_multiple T__law_multiple := by
  rintro ds S Q E frg ⟨⟨a, b⟩, rfl, ⟨ha, hb⟩, q⟩
  have ha : 0 < a := ha
  have hb : 0 < b := hb
  obtain ⟨A, rfl⟩ : ∃ A : Nat, a = (A : Int) := ⟨a.natAbs, by omega⟩
  obtain ⟨B, rfl⟩ : ∃ B : Nat, b = (B : Int) := ⟨b.natAbs, by omega⟩
  have hA : 0 < A := by omega
  have hB : 0 < B := by omega
  obtain ⟨L, hL⟩ := Nat.dvd_lcm_left A B
  have q : Q (.int ((A.lcm B : Nat) : Int)) S := q
  unfold T__law_multiple
  walk_at "wp"
  have hL0 : 0 < L := by
    rcases Nat.eq_zero_or_pos L with e | e
    · rw [e, Nat.mul_zero] at hL
      have := Nat.lcm_pos hA hB
      omega
    · exact e
  refine wh_inv (fun (k : Nat) ds S' => S' = S ∧ ds = [some (.int A), some (.int B), some (.int ((A * k : Nat) : Int))] ∧ 0 < k ∧ k ≤ L) (fun k => L - k) ?_ (a := 1) ⟨rfl, by rw [Nat.mul_one], by decide, hL0⟩
  rintro k ds S' N ⟨rfl, rfl, hk, hl⟩ hN
  walk_at "wp"
  refine ⟨by omega, ite2 (fun h => ?_) (fun h => ?_)⟩
  · have h1 : ¬ (A * k) % B = 0 := by
      intro e
      have : ((A * k : Nat) : Int) % (B : Int) = 0 := by rw [← Int.natCast_emod, e]; rfl
      rw [this] at h
      exact absurd h (by decide)
    have h2 : k ≠ L := by
      intro e
      rw [e, ← hL] at h1
      exact h1 (Nat.mod_eq_zero_of_dvd (Nat.dvd_lcm_right A B))
    refine hN (k + 1) _ _ (by omega) ⟨rfl, ?_, by omega, by omega⟩
    rw [Nat.mul_succ, Int.natCast_add]
  · have h1 : (A * k) % B = 0 := by
      have : ((A * k : Nat) : Int) % (B : Int) = 0 := by simpa using h
      rw [← Int.natCast_emod] at this
      omega
    have h2 := lcm_le_of hA hk h1
    have h3 : A * k ≤ A * L := Nat.mul_le_mul_left A hl
    have h4 : A * k = A.lcm B := by omega
    rw [h4]
    exact q
def T__law_limit : TS2 :=
  (dSeq (dPar 2 3 (dCons (dCall sp__law_weights (dCons (dVar 0) dNil)) (dCons (dCall sp__law_weights (dCons (dVar 1) dNil)) dNil)))
  (dRet (dTup (dCons (dCB qMax2 (dCons (dOp qIx (dVar 2) (dC (.int 0))) (dCons (dOp qIx (dVar 3) (dC (.int 0))) dNil))) (dCons (dCall sp__law_multiple (dCons (dOp qIx (dVar 2) (dC (.int 1))) (dCons (dOp qIx (dVar 3) (dC (.int 1))) dNil))) dNil)))))

theorem pure__law_limit : Pure 4 sp__law_limit T__law_limit := by
  rintro ds S Q E frg ⟨⟨c, d⟩, rfl, ⟨hc, hd⟩, q⟩
  unfold T__law_limit
  walk_at "wp"
  have hc : okC c := hc
  have hd : okC d := hd
  refine ⟨c, rfl, hc, d, rfl, hd, ?_⟩
  walk_at "wp"
  refine ⟨(per c, per d), rfl, ⟨per_pos hc, per_pos hd⟩, ?_⟩
  rw [max_if]
  exact ⟨by decide, q⟩
end Sc

namespace Sm
theorem moved_in {b c lo hi : Int} (h : lo ≤ hi) : lo ≤ moved b c lo hi ∧ moved b c lo hi ≤ hi := by
  unfold moved
  omega
theorem begP_in {o : Option Int} {c : Int} (h : 0 ≤ c) : 0 ≤ begP o c ∧ begP o c ≤ c := by
  cases o with
  | none => exact ⟨Int.le_refl _, h⟩
  | some b => exact moved_in h
theorem endP_in {o : Option Int} {c : Int} (h : 0 ≤ c) : 0 ≤ endP o c ∧ endP o c ≤ c := by
  cases o with
  | none => exact ⟨h, Int.le_refl _⟩
  | some b => exact moved_in h
theorem begN_in {o : Option Int} {c : Int} (h : 0 ≤ c) : -1 ≤ begN o c ∧ begN o c ≤ c - 1 := by
  cases o with
  | none => exact ⟨by show -1 ≤ c - 1; omega, Int.le_refl _⟩
  | some b => exact moved_in (by omega)
theorem endN_in {o : Option Int} {c : Int} (h : 0 ≤ c) : -1 ≤ endN o c ∧ endN o c ≤ c - 1 := by
  cases o with
  | none => exact ⟨Int.le_refl _, by show -1 ≤ c - 1; omega⟩
  | some b => exact moved_in (by omega)
theorem ceil_le {x t : Int} (h : 0 < t) : max 0 ((x + t - 1) / t) ≤ max 0 x := by
  by_cases hx : 0 < x
  · have : (x + t - 1) / t < x + 1 := by
      refine Int.ediv_lt_of_lt_mul h ?_
      have : (x - 1) * 1 ≤ (x - 1) * t := Int.mul_le_mul_of_nonneg_left (by omega) (by omega)
      have e : (x + 1) * t = (x - 1) * t + t + t := by rw [Int.add_mul, Int.sub_mul]; omega
      rw [e]
      omega
    omega
  · have : (x + t - 1) / t < 1 := Int.ediv_lt_of_lt_mul h (by omega)
    omega
theorem many_le {s : Sl} {c : Int} (hs : okS s) (h : 0 ≤ c) : manyOf s c ≤ c := by
  obtain ⟨a, b, t⟩ := s
  have ht : t ≠ 0 := hs.2.2.2.2
  by_cases h0 : 0 < t
  · rw [many_pos h0]
    have := ceil_le (x := endP b c - begP a c) h0
    have := begP_in (o := a) h
    have := endP_in (o := b) h
    omega
  · rw [many_neg h0]
    have e : begN a c - endN b c - t - 1 = begN a c - endN b c + (-t) - 1 := by omega
    rw [e]
    have := ceil_le (x := begN a c - endN b c) (t := -t) (by omega)
    have := begN_in (o := a) h
    have := endN_in (o := b) h
    omega
theorem ends_in {s : Sl} {c : Int} (h : 0 ≤ c) : -1 ≤ (endsOf s c).1 ∧ (endsOf s c).1 ≤ c := by
  obtain ⟨a, b, t⟩ := s
  by_cases h0 : 0 < t
  · rw [ends_pos h0]
    have := begP_in (o := a) h
    exact ⟨by show -1 ≤ begP a c; omega, this.2⟩
  · rw [ends_neg h0]
    have := begN_in (o := a) h
    exact ⟨this.1, by show begN a c ≤ c; omega⟩
theorem shownF_cons (s : Sl) (c : List Sl) (p : Pg) : shownF (s :: c) p = shownF c (applied s p) := rfl
theorem shownF_app (c d : List Sl) (p : Pg) : shownF (c ++ d) p = shownF d (shownF c p) := List.foldl_append
theorem shown_app (c d : List Sl) (n : Int) : shown (c ++ d) n = shownF d (shown c n) := List.foldl_append
theorem shownF_count : ∀ (c : List Sl) (p : Pg), (∀ s, s ∈ c → okS s) → 0 ≤ p.2.2 → 0 ≤ (shownF c p).2.2 ∧ (shownF c p).2.2 ≤ p.2.2
  | [], p, _, h => ⟨h, Int.le_refl _⟩
  | s :: c, p, hc, h => by
    have z := shownF_count c (applied s p) (fun s hs => hc s (List.mem_cons_of_mem _ hs)) (many_nn _ _)
    have m : (applied s p).2.2 ≤ p.2.2 := many_le (hc s List.mem_cons_self) h
    rw [shownF_cons]
    omega
theorem okC_app {c d : List Sl} (hc : okC c) (hd : okC d) (h : c.length + d.length ≤ 4) : okC (c ++ d) := by
  refine ⟨by rw [List.length_append]; exact h, fun s hs => ?_⟩
  rcases List.mem_append.mp hs with hs | hs
  · exact hc.2 s hs
  · exact hd.2 s hs
theorem search_congr {p q : Int → Bool} (h : ∀ i, p i = q i) : ∀ (a : Int) (m : Nat), search p a m = search q a m
  | _, 0 => rfl
  | a, m + 1 => by
    unfold search
    rw [h a, search_congr h]
theorem unlike_comm (c d : List Sl) (n : Int) : unlike c d n = unlike d c n := by
  unfold unlike
  rw [decide_eq_decide]
  exact ⟨fun h e => h e.symm, fun h e => h e.symm⟩
theorem bnd_comm (c d : List Sl) : bnd c d = bnd d c := by
  unfold bnd lastT bothP lcmI
  rw [Nat.lcm_comm, Int.max_comm]
theorem firstD_comm (c d : List Sl) : firstD c d = firstD d c := by
  unfold firstD
  rw [bnd_comm c d, search_congr (unlike_comm c d)]
theorem search_succ {p : Int → Bool} {a : Int} {m : Nat} : search p a (m + 1) = if p a = true then some a else search p (a + 1) m := rfl
theorem search_none {p : Int → Bool} : ∀ (a : Int) (m : Nat), search p a m = none ↔ ∀ i, a ≤ i → i < a + m → p i = false
  | a, 0 => ⟨fun _ i h1 h2 => by omega, fun _ => rfl⟩
  | a, m + 1 => by
    unfold search
    by_cases h : p a = true
    · rw [if_pos h]
      refine ⟨fun e => by (cases e), fun z => ?_⟩
      rw [z a (Int.le_refl _) (by omega)] at h
      cases h
    · rw [if_neg h, search_none (a + 1) m]
      refine ⟨fun z i h1 h2 => ?_, fun z i h1 h2 => z i (by omega) (by omega)⟩
      by_cases e : i = a
      · subst e; simpa using h
      · exact z i (by omega) (by omega)
theorem search_some {p : Int → Bool} : ∀ (a : Int) (m : Nat) (i : Int), search p a m = some i → a ≤ i ∧ i < a + m ∧ p i = true ∧ ∀ j, a ≤ j → j < i → p j = false
  | a, 0, i, e => by cases e
  | a, m + 1, i, e => by
    unfold search at e
    by_cases h : p a = true
    · rw [if_pos h] at e
      cases e
      exact ⟨Int.le_refl _, by omega, h, fun j h1 h2 => by omega⟩
    · rw [if_neg h] at e
      obtain ⟨h1, h2, h3, h4⟩ := search_some (a + 1) m i e
      refine ⟨by omega, by omega, h3, fun j k1 k2 => ?_⟩
      by_cases e : j = a
      · subst e; simpa using h
      · exact h4 j (by omega) k2
theorem firstD_self (c : List Sl) : firstD c c = none := by
  unfold firstD
  rw [search_none]
  intro i _ _
  unfold unlike
  simp
end Sm

namespace Sc
open PySem PySem.Spec PyProof.Rows L2 Sm
local macro_rules | `(tactic| walk_at "wp") => `(tactic| simp only [dRet, dSeq, dIfS, dNext, dDrop, dSet, dAsg, dPar, dPar3, dAug, dVar, dC, dOp, dUn, dTest, dTru, dNot, dAnd, dOr, dAndV, dOrV, dNotV, dIf, dChain, dCall, dCons, dNil, dCB, dTup, dLst, dIsi, dStore, kSub, dYes, dFor, dIt, dItL, dRng1, dRng2, dSl, dNoP, dPart, dMt, dRaise,
  qI, qI0, qAdd, qSub, qMul, qFdiv, qFdivN, qMod, qPow, qLt, qLe, qGt, qGe, qEq, qNe, qIsN, qNotN, qIsB, qNotB, qNeg, qAbs, qMax2, qMin2, qLen, qIx, qTupOf, qLstOf, qSlT, qSlL, qCatT, qRepT, kName, kTup, kCons, kNil, start2, List.map_cons, List.map_nil, List.length_cons, List.length_nil, List.replicate, List.cons_append, List.nil_append, List.append_nil,
  List.getElem?_cons_zero, List.getElem?_cons_succ, List.set_cons_zero, List.set_cons_succ, Option.some.injEq, exists_eq_left', exists_eq_left, Dt.int.injEq, Dt.bl.injEq, Dt.ref.injEq, Dt.tup.injEq, Dt.lst.injEq, Nat.sub_zero, Nat.zero_add, Nat.reduceAdd, Nat.reduceSub, asQ_tup, asQ_lst, asL_lst, asT_tup, asQ_put, asL_put, exists_and_left, List.cons.injEq, and_true, isN_int, isN_non, truD_int, truD_non, at_0, at_1, at_2, ix20, ix21, Cells.put_same, Cells.put_put, Cell.lst.injEq, sEq_ii, sEq_bb, sEq_ss, sEq_nn, sEq_ni, sEq_in, true_and, decide_eq_true_eq, and_assoc])


/-! ### far.py -/
def sp_moved : Sp2 := psp (α := Int × Int × Int × Int) (fun a => [.int a.1, .int a.2.1, .int a.2.2.1, .int a.2.2.2]) (fun _ => True) (fun a => .int (moved a.1 a.2.1 a.2.2.1 a.2.2.2))
def sp_ends : Sp2 := psp (α := Sl × Int) (fun a => [dS a.1, .int a.2]) (fun _ => True) (fun a => .tup [.int (endsOf a.1 a.2).1, .int (endsOf a.1 a.2).2])
def sp_applied : Sp2 := psp (α := Sl × Pg) (fun a => [dS a.1, dPg a.2]) (fun a => okS a.1 ∧ 0 ≤ a.2.2.2 ∧ a.2.2.2 ≤ 10 ^ 18) (fun a => dPg (applied a.1 a.2))
def sp_shown_by : Sp2 := psp (α := List Sl × Int) (fun a => [dCh a.1, .int a.2]) (fun a => (∀ s, s ∈ a.1 → okS s) ∧ 0 ≤ a.2 ∧ a.2 ≤ 10 ^ 18) (fun a => dPg (shown a.1 a.2))
def sp_cleaned : Sp2 := psp (α := Pg) (fun a => [dPg a]) (fun _ => True) (fun a => dCl (cleaned a))
def sp_clean : Sp2 := psp (α := List Sl × Int) (fun a => [dCh a.1, .int a.2]) (fun a => (∀ s, s ∈ a.1 → okS s) ∧ 0 ≤ a.2 ∧ a.2 ≤ 10 ^ 18) (fun a => dCl (clean a.1 a.2))
def sp_agree_at : Sp2 := psp (α := List Sl × List Sl × Int) (fun a => [dCh a.1, dCh a.2.1, .int a.2.2]) (fun a => (∀ s, s ∈ a.1 → okS s) ∧ (∀ s, s ∈ a.2.1 → okS s) ∧ 0 ≤ a.2.2 ∧ a.2.2 ≤ 10 ^ 18) (fun a => .bl (decide (clean a.1 a.2.2 = clean a.2.1 a.2.2)))
def sp_first_difference : Sp2 := psp (α := List Sl × List Sl) (fun a => [dCh a.1, dCh a.2]) (fun a => okC a.1 ∧ okC a.2) (fun a => dO (firstD a.1 a.2))
def sp_are_equal : Sp2 := psp (α := List Sl × List Sl) (fun a => [dCh a.1, dCh a.2]) (fun a => okC a.1 ∧ okC a.2) (fun a => .bl (firstD a.1 a.2).isNone)
def sp_equal : Sp2 := psp (α := List Sl × List Sl) (fun a => [dCh a.1, dCh a.2]) (fun a => okC a.1 ∧ okC a.2) (fun a => .bl (firstD a.1 a.2).isNone)
def sp_difference : Sp2 := psp (α := List Sl × List Sl) (fun a => [dCh a.1, dCh a.2]) (fun a => okC a.1 ∧ okC a.2) (fun a => dO (firstD a.1 a.2))
theorem dPg_eq (p : Pg) : dPg p = .tup [.int p.1, .int p.2.1, .int p.2.2] := rfl
theorem bnd_le {c d : List Sl} (hc : okC c) (hd : okC d) : 0 ≤ bnd c d ∧ bnd c d ≤ 40000 := by
  unfold bnd lastT bothP lcmI
  have h1 := thr_le hc
  have h2 := thr_le hd
  have h3 := thr_nn hc
  have h5 := per_pos hc
  have h6 := per_pos hd
  have h7 := per_le hc
  have h8 := per_le hd
  have z : (per c).natAbs.lcm (per d).natAbs ≤ (per c).natAbs * (per d).natAbs := Nat.le_of_dvd (Nat.mul_pos (by omega) (by omega)) (Nat.lcm_dvd (Nat.dvd_mul_right _ _) (Nat.dvd_mul_left _ _))
  have y : (per c).natAbs * (per d).natAbs ≤ 81 * 81 := Nat.mul_le_mul (by omega) (by omega)
  omega
theorem isN_dO {o : Option Int} : isN (dO o) = o.isNone := by cases o <;> rfl
def T_moved : TS2 :=
  (dSeq (dSet 4 (dIf (dTest (dOp qLt (dVar 0) (dC (.int 0)))) (dOp qAdd (dVar 0) (dVar 1)) (dVar 0)))
  (dRet (dCB qMax2 (dCons (dVar 2) (dCons (dCB qMin2 (dCons (dVar 3) (dCons (dVar 4) dNil))) dNil)))))
theorem pure_moved : Pure 5 sp_moved T_moved := by
  rintro ds S Q E frg ⟨⟨b, c, lo, hi⟩, rfl, -, q⟩
  have q : Q (.int (max lo (min hi (if b < 0 then b + c else b)))) S := q
  unfold T_moved
  walk_at "wp"
  refine ite2 (fun h => ?_) (fun h => ?_)
  · rw [if_pos h] at q
    simp only [max_if, min_if]
    rw [Int.max_comm]
    have e : min hi (b + c) = min hi (b + c) := rfl
    first
      | exact q
      | (rw [Int.max_comm]; exact q)
  · rw [if_neg h] at q
    simp only [max_if, min_if]
    first
      | exact q
      | (rw [Int.max_comm]; exact q)
def T_ends : TS2 :=
  (dSeq (dAsg (dVar 0) (kTup 3 (kCons (kName 2) (kCons (kName 3) (kCons (kName 4) kNil)))))
  (dSeq (dIfS (dTest (dOp qGt (dVar 4) (dC (.int 0)))) (dSeq (dSet 5 (dIf (dTest (dOp qIsN (dVar 2) (dC .non))) (dC (.int 0)) (dCall sp_moved (dCons (dVar 2) (dCons (dVar 1) (dCons (dC (.int 0)) (dCons (dVar 1) dNil)))))))
  (dRet (dTup (dCons (dVar 5) (dCons (dIf (dTest (dOp qIsN (dVar 3) (dC .non))) (dVar 1) (dCall sp_moved (dCons (dVar 3) (dCons (dVar 1) (dCons (dC (.int 0)) (dCons (dVar 1) dNil)))))) dNil))))) dNext)
  (dSeq (dSet 5 (dIf (dTest (dOp qIsN (dVar 2) (dC .non))) (dOp qSub (dVar 1) (dC (.int 1))) (dCall sp_moved (dCons (dVar 2) (dCons (dVar 1) (dCons (dOp qSub (dC (.int 0)) (dC (.int 1))) (dCons (dOp qSub (dVar 1) (dC (.int 1))) dNil)))))))
  (dRet (dTup (dCons (dVar 5) (dCons (dIf (dTest (dOp qIsN (dVar 3) (dC .non))) (dOp qSub (dC (.int 0)) (dC (.int 1))) (dCall sp_moved (dCons (dVar 3) (dCons (dVar 1) (dCons (dOp qSub (dC (.int 0)) (dC (.int 1))) (dCons (dOp qSub (dVar 1) (dC (.int 1))) dNil)))))) dNil)))))))
theorem pure_ends : Pure 6 sp_ends T_ends := by
  rintro ds S Q E frg ⟨⟨⟨a, b, t⟩, c⟩, rfl, -, q⟩
  have q : Q (.tup [.int (endsOf (a, b, t) c).1, .int (endsOf (a, b, t) c).2]) S := q
  unfold T_ends
  simp only [dS_eq]
  by_cases h0 : 0 < t
  · rw [ends_pos h0] at q
    cases a <;> cases b <;> (simp only [dO, begP, endP] at q ⊢; walk_at "wp"; rw [if_pos h0]; simp only [Bool.false_eq_true, if_true, if_false])
    · exact ⟨by decide, q⟩
    · exact ⟨(_, _, _, _), rfl, trivial, by decide, q⟩
    · exact ⟨(_, _, _, _), rfl, trivial, by decide, q⟩
    · exact ⟨(_, _, _, _), rfl, trivial, (_, _, _, _), rfl, trivial, by decide, q⟩
  · rw [ends_neg h0] at q
    cases a <;> cases b <;> (simp only [dO, begN, endN] at q ⊢; walk_at "wp"; rw [if_neg h0]; simp only [Bool.false_eq_true, if_true, if_false])
    · exact ⟨by decide, q⟩
    · exact ⟨(_, _, _, _), rfl, trivial, by decide, q⟩
    · exact ⟨(_, _, _, _), rfl, trivial, by decide, q⟩
    · exact ⟨(_, _, _, _), rfl, trivial, (_, _, _, _), rfl, trivial, by decide, q⟩
def T_applied : TS2 :=
  (dSeq (dAsg (dVar 1) (kTup 3 (kCons (kName 2) (kCons (kName 3) (kCons (kName 4) kNil)))))
  (dSeq (dAsg (dCall sp_ends (dCons (dVar 0) (dCons (dVar 4) dNil))) (kTup 2 (kCons (kName 5) (kCons (kName 6) kNil))))
  (dSeq (dIfS (dTest (dOp qGt (dOp qIx (dVar 0) (dC (.int 2))) (dC (.int 0)))) (dSet 7 (dCB qMax2 (dCons (dC (.int 0)) (dCons (dOp qFdiv (dOp qSub (dOp qAdd (dOp qSub (dVar 6) (dVar 5)) (dOp qIx (dVar 0) (dC (.int 2)))) (dC (.int 1))) (dOp qIx (dVar 0) (dC (.int 2)))) dNil)))) (dSet 7 (dCB qMax2 (dCons (dC (.int 0)) (dCons (dOp qFdiv (dOp qSub (dOp qSub (dOp qSub (dVar 5) (dVar 6)) (dOp qIx (dVar 0) (dC (.int 2)))) (dC (.int 1))) (dOp qSub (dC (.int 0)) (dOp qIx (dVar 0) (dC (.int 2))))) dNil)))))
  (dRet (dTup (dCons (dOp qAdd (dVar 2) (dOp qMul (dVar 3) (dVar 5))) (dCons (dOp qMul (dVar 3) (dOp qIx (dVar 0) (dC (.int 2)))) (dCons (dVar 7) dNil))))))))
theorem pure_applied : Pure 8 sp_applied T_applied := by
  rintro ds S Q E frg ⟨⟨⟨a, b, t⟩, f, s, c⟩, rfl, ⟨hs, hc, hc2⟩, q⟩
  have hc : 0 ≤ c := hc
  have hc2 : c ≤ 10 ^ 18 := hc2
  have ht := hs.2.2
  have ht : -3 ≤ t ∧ t ≤ 3 ∧ t ≠ 0 := ht
  have k := ends_in (s := (a, b, t)) hc
  have q : Q (.tup [.int (f + s * (endsOf (a, b, t) c).1), .int (s * t), .int (manyOf (a, b, t) c)]) S := q
  unfold T_applied
  simp only [dPg_eq]
  walk_at "wp"
  refine ⟨((a, b, t), c), rfl, trivial, ?_⟩
  simp only [dS_eq]
  walk_at "wp"
  have h18 : (10 : Int) ^ 18 < 2 ^ 64 := by decide
  have m1 : CMul s (endsOf (a, b, t) c).1 := .inr ⟨by omega, by omega⟩
  have m2 : CMul s t := .inr ⟨by omega, by omega⟩
  by_cases h0 : 0 < t
  · unfold manyOf at q
    rw [if_pos h0] at q
    rw [if_pos h0]
    simp only [max_if]
    exact ⟨cdiv_of h0 (by omega), m1, m2, by decide, q⟩
  · unfold manyOf at q
    rw [if_neg h0] at q
    rw [if_neg h0]
    have e : (0 : Int) - t = -t := by omega
    simp only [max_if, e]
    exact ⟨cdiv_of (by omega) (by omega), m1, m2, by decide, q⟩
def T_shown_by : TS2 :=
  (dSeq (dSet 2 (dTup (dCons (dC (.int 0)) (dCons (dC (.int 1)) (dCons (dVar 1) dNil)))))
  (dSeq (dFor (dIt (dVar 0)) (kName 3) (dSet 2 (dCall sp_applied (dCons (dVar 3) (dCons (dVar 2) dNil)))))
  (dRet (dVar 2))))
theorem pure_shown_by : Pure 4 sp_shown_by T_shown_by := by
  rintro ds S Q E frg ⟨⟨c, n⟩, rfl, ⟨hc, h0, h1⟩, q⟩
  have h0 : 0 ≤ n := h0
  have h1 : n ≤ 10 ^ 18 := h1
  unfold T_shown_by
  walk_at "wp"
  refine ⟨by decide, _, rfl, ?_⟩
  refine loop_fold dS (fun (p : Pg) ds S' => S' = S ∧ 0 ≤ p.2.2 ∧ p.2.2 ≤ n ∧ ∃ u, ds = [some (dCh c), some (.int n), some (dPg p), u]) (fun p s => applied s p) (b := (0, 1, n)) ⟨rfl, h0, Int.le_refl _, _, rfl⟩ ?_ ?_
  · rintro p s ds S' N hs ⟨rfl, k0, k1, u, rfl⟩ hN
    walk_at "wp"
    exact ⟨(s, p), rfl, ⟨hc s hs, k0, by show p.2.2 ≤ _; omega⟩, hN _ _ ⟨rfl, many_nn _ _, by have := many_le (hc s hs) k0; show manyOf s p.2.2 ≤ n; omega, _, rfl⟩⟩
  · rintro ds S' ⟨rfl, k0, k1, u, rfl⟩
    walk_at "wp"
    exact q
def T_cleaned : TS2 :=
  (dSeq (dAsg (dVar 0) (kTup 3 (kCons (kName 1) (kCons (kName 2) (kCons (kName 3) kNil)))))
  (dRet (dTup (dCons (dIf (dTest (dOp qGt (dVar 3) (dC (.int 0)))) (dVar 1) (dC .non)) (dCons (dIf (dTest (dOp qGt (dVar 3) (dC (.int 1)))) (dVar 2) (dC .non)) (dCons (dVar 3) dNil))))))
theorem pure_cleaned : Pure 4 sp_cleaned T_cleaned := by
  rintro ds S Q E frg ⟨⟨f, s, c⟩, rfl, -, q⟩
  have q : Q (.tup [dO (if c > 0 then some f else none), dO (if c > 1 then some s else none), .int c]) S := q
  unfold T_cleaned
  simp only [dPg_eq]
  walk_at "wp"
  by_cases h : c > 0 <;> by_cases h1 : c > 1 <;> simp only [h, h1, if_true, if_false] at q ⊢ <;> exact ⟨by decide, q⟩
def T_clean : TS2 :=
  (dRet (dCall sp_cleaned (dCons (dCall sp_shown_by (dCons (dVar 0) (dCons (dVar 1) dNil))) dNil)))
theorem pure_clean : Pure 2 sp_clean T_clean := by
  rintro ds S Q E frg ⟨⟨c, n⟩, rfl, h, q⟩
  unfold T_clean
  walk_at "wp"
  exact ⟨(c, n), rfl, h, _, rfl, trivial, q⟩
def T_agree_at : TS2 :=
  (dRet (dOp qEqD (dCall sp_clean (dCons (dVar 0) (dCons (dVar 2) dNil))) (dCall sp_clean (dCons (dVar 1) (dCons (dVar 2) dNil)))))
theorem pure_agree_at : Pure 3 sp_agree_at T_agree_at := by
  rintro ds S Q E frg ⟨⟨c, d, n⟩, rfl, ⟨h1, h2, h3⟩, q⟩
  unfold T_agree_at
  walk_at "wp"
  exact ⟨(c, n), rfl, ⟨h1, h3⟩, (d, n), rfl, ⟨h2, h3⟩, _, DEq.mk (dCl_ok _) (dCl_ok _) dCl_inj.symm, q⟩
def T_first_difference : TS2 :=
  (dSeq (dFor (dRng1 (dCall sp_bound_for (dCons (dVar 0) (dCons (dVar 1) dNil)))) (kName 2) (dIfS (dNot (dTest (dCall sp_agree_at (dCons (dVar 0) (dCons (dVar 1) (dCons (dVar 2) dNil)))))) (dRet (dVar 2)) dNext))
  (dRet (dC .non)))
theorem pure_first_difference : Pure 3 sp_first_difference T_first_difference := by
  rintro ds S Q E frg ⟨⟨c, d⟩, rfl, ⟨hc, hd⟩, q⟩
  have hc : okC c := hc
  have hd : okC d := hd
  have q : Q (dO (search (unlike c d) 0 (bnd c d).toNat)) S := q
  unfold T_first_difference
  walk_at "wp"
  have b := bnd_le hc hd
  refine ⟨(c, d), rfl, ⟨hc, hd⟩, ?_⟩
  walk_at "wp"
  refine ⟨by omega, by omega, ?_⟩
  refine loop_rng (fun i ds S' => S' = S ∧ (∃ u, ds = [some (dCh c), some (dCh d), u]) ∧ search (unlike c d) 0 (bnd c d).toNat = search (unlike c d) (i : Int) ((bnd c d).toNat - i)) ⟨rfl, ⟨_, rfl⟩, rfl⟩ ?_ ?_
  · rintro i ds S' N hi ⟨rfl, ⟨u, rfl⟩, e⟩ hN
    walk_at "wp"
    refine ⟨(c, d, 0 + (i : Int)), rfl, ⟨hc.2, hd.2, by show (0 : Int) ≤ 0 + _; omega, by show 0 + (i : Int) ≤ _; omega⟩, ?_⟩
    have es : (bnd c d).toNat - i = ((bnd c d).toNat - (i + 1)) + 1 := by omega
    rw [es] at e
    rw [search_succ] at e
    rw [Int.zero_add]
    walk_at "wp"
    by_cases h : clean c (i : Int) = clean d (i : Int)
    · have hu : unlike c d (i : Int) = false := by unfold unlike; simp [h]
      rw [hu, if_neg (by decide)] at e
      refine iteN (by simp [h]) (hN _ _ ⟨rfl, ⟨_, rfl⟩, by rw [e]; rfl⟩)
    · have hu : unlike c d (i : Int) = true := by unfold unlike; simp [h]
      rw [hu, if_pos rfl] at e
      rw [e] at q
      exact iteP (by simp [h]) q
  · rintro ds S' ⟨rfl, ⟨u, rfl⟩, e⟩
    walk_at "wp"
    rw [e, Nat.sub_self] at q
    exact q
def T_are_equal : TS2 :=
  (dRet (dOp qIsN (dCall sp_first_difference (dCons (dVar 0) (dCons (dVar 1) dNil))) (dC .non)))
theorem pure_are_equal : Pure 2 sp_are_equal T_are_equal := by
  rintro ds S Q E frg ⟨⟨c, d⟩, rfl, h, q⟩
  unfold T_are_equal
  walk_at "wp"
  refine ⟨(c, d), rfl, h, ?_⟩
  dsimp only
  rw [isN_dO]
  exact q
def T_equal : TS2 :=
  (dSeq (dDrop (dCall sp_require_both (dCons (dVar 0) (dCons (dVar 1) dNil))))
  (dRet (dOp qIsN (dCall sp_first_difference (dCons (dVar 0) (dCons (dVar 1) dNil))) (dC .non))))
theorem pure_equal : Pure 2 sp_equal T_equal := by
  rintro ds S Q E frg ⟨⟨c, d⟩, rfl, h, q⟩
  unfold T_equal
  walk_at "wp"
  refine ⟨(c, d), rfl, h, (c, d), rfl, h, ?_⟩
  dsimp only
  rw [isN_dO]
  exact q
def T_difference : TS2 :=
  (dSeq (dDrop (dCall sp_require_both (dCons (dVar 0) (dCons (dVar 1) dNil))))
  (dRet (dCall sp_first_difference (dCons (dVar 0) (dCons (dVar 1) dNil)))))
theorem pure_difference : Pure 2 sp_difference T_difference := by
  rintro ds S Q E frg ⟨⟨c, d⟩, rfl, h, q⟩
  unfold T_difference
  walk_at "wp"
  exact ⟨(c, d), rfl, h, (c, d), rfl, h, q⟩
def T__law_shown : TS2 :=
  (dSeq (dPar3 2 3 4 (dCons (dC (.int 0)) (dCons (dC (.int 1)) (dCons (dVar 1) dNil))))
  (dSeq (dFor (dIt (dVar 0)) (kName 5) (dSeq (dAsg (dCall sp__law_part (dCons (dVar 5) (dCons (dVar 4) dNil))) (kTup 2 (kCons (kName 6) (kCons (kName 7) kNil))))
  (dPar3 2 3 4 (dCons (dOp qAdd (dVar 2) (dOp qMul (dVar 3) (dVar 6))) (dCons (dOp qMul (dVar 3) (dOp qIx (dVar 5) (dC (.int 2)))) (dCons (dVar 7) dNil))))))
  (dRet (dTup (dCons (dIf (dTest (dOp qGt (dVar 4) (dC (.int 0)))) (dVar 2) (dC .non)) (dCons (dIf (dTest (dOp qGt (dVar 4) (dC (.int 1)))) (dVar 3) (dC .non)) (dCons (dVar 4) dNil)))))))
theorem pure__law_shown : Pure 8 sp__law_shown T__law_shown := by
  rintro ds S Q E frg ⟨⟨c, n⟩, rfl, ⟨hc, h0, h1⟩, q⟩
  have h0 : 0 ≤ n := h0
  have h1 : n ≤ 10 ^ 18 := h1
  have h18 : (10 : Int) ^ 18 < 2 ^ 64 := by decide
  unfold T__law_shown
  walk_at "wp"
  refine ⟨_, rfl, ?_⟩
  refine loop_fold dS (fun (p : Pg) ds S' => S' = S ∧ 0 ≤ p.2.2 ∧ p.2.2 ≤ n ∧ ∃ u v w, ds = [some (dCh c), some (.int n), some (.int p.1), some (.int p.2.1), some (.int p.2.2), u, v, w]) (fun p s => applied s p) (b := (0, 1, n)) ⟨rfl, h0, Int.le_refl _, _, _, _, rfl⟩ ?_ ?_
  · rintro p s ds S' N hs ⟨rfl, k0, k1, u, v, w, rfl⟩ hN
    walk_at "wp"
    refine ⟨(s, p.2.2), rfl, ⟨hc s hs, k0⟩, ?_⟩
    have ht := (hc s hs).2.2
    have k := ends_in (s := s) k0
    simp only [dS_eq]
    walk_at "wp"
    refine ⟨.inr ⟨by omega, by omega⟩, .inr ⟨by omega, by omega⟩, hN _ _ ⟨rfl, many_nn _ _, by have := many_le (hc s hs) k0; show manyOf s p.2.2 ≤ n; omega, _, _, _, rfl⟩⟩
  · rintro ds S' ⟨rfl, k0, k1, u, v, w, rfl⟩
    walk_at "wp"
    have q : Q (.tup [dO (if (shown c n).2.2 > 0 then some (shown c n).1 else none), dO (if (shown c n).2.2 > 1 then some (shown c n).2.1 else none), .int (shown c n).2.2]) S' := q
    have e : List.foldl (fun p s => applied s p) (0, 1, n) c = shown c n := rfl
    rw [e]
    by_cases h : (shown c n).2.2 > 0 <;> by_cases h1 : (shown c n).2.2 > 1 <;> simp only [h, h1, if_true, if_false] at q ⊢ <;> exact ⟨by decide, q⟩
def T__law_unlike : TS2 :=
  (dSeq (dAsg (dCall sp__law_limit (dCons (dVar 0) (dCons (dVar 1) dNil))) (kTup 2 (kCons (kName 2) (kCons (kName 3) kNil))))
  (dSeq (dFor (dRng1 (dOp qAdd (dVar 2) (dOp qMul (dC (.int 3)) (dVar 3)))) (kName 4) (dIfS (dTest (dOp qNeD (dCall sp__law_shown (dCons (dVar 0) (dCons (dVar 4) dNil))) (dCall sp__law_shown (dCons (dVar 1) (dCons (dVar 4) dNil))))) (dRet (dVar 4)) dNext))
  (dRet (dC .non))))
theorem pure__law_unlike : Pure 5 sp__law_unlike T__law_unlike := by
  rintro ds S Q E frg ⟨⟨c, d⟩, rfl, ⟨hc, hd⟩, q⟩
  have hc : okC c := hc
  have hd : okC d := hd
  have q : Q (dO (search (unlike c d) 0 (bnd c d).toNat)) S := q
  unfold T__law_unlike
  walk_at "wp"
  have b := bnd_le hc hd
  refine ⟨(c, d), rfl, ⟨hc, hd⟩, ?_⟩
  walk_at "wp"
  have eb : lastT c d + 3 * bothP c d = bnd c d := rfl
  rw [eb]
  refine ⟨.inl (by omega), by omega, by omega, ?_⟩
  refine loop_rng (fun i ds S' => S' = S ∧ (∃ u v w, ds = [some (dCh c), some (dCh d), u, v, w]) ∧ search (unlike c d) 0 (bnd c d).toNat = search (unlike c d) (i : Int) ((bnd c d).toNat - i)) ⟨rfl, ⟨_, _, _, rfl⟩, rfl⟩ ?_ ?_
  · rintro i ds S' N hi ⟨rfl, ⟨u, v, w, rfl⟩, e⟩ hN
    walk_at "wp"
    refine ⟨(c, 0 + (i : Int)), rfl, ⟨hc.2, by show (0 : Int) ≤ 0 + _; omega, by show 0 + (i : Int) ≤ _; omega⟩, (d, 0 + (i : Int)), rfl, ⟨hd.2, by show (0 : Int) ≤ 0 + _; omega, by show 0 + (i : Int) ≤ _; omega⟩, _, DEq.mk (dCl_ok _) (dCl_ok _) dCl_inj.symm, ?_⟩
    have es : (bnd c d).toNat - i = ((bnd c d).toNat - (i + 1)) + 1 := by omega
    rw [es] at e
    rw [search_succ] at e
    dsimp only
    rw [Int.zero_add]
    refine ⟨_, rfl, ?_⟩
    by_cases h : clean c (i : Int) = clean d (i : Int)
    · have hu : unlike c d (i : Int) = false := by unfold unlike; simp [h]
      rw [hu, if_neg (by decide)] at e
      refine iteN (by simp [h]) (hN _ _ ⟨rfl, ⟨_, _, _, rfl⟩, by rw [e]; rfl⟩)
    · have hu : unlike c d (i : Int) = true := by unfold unlike; simp [h]
      rw [hu, if_pos rfl] at e
      rw [e] at q
      exact iteP (by simp [h]) q
  · rintro ds S' ⟨rfl, ⟨u, v, w, rfl⟩, e⟩
    walk_at "wp"
    rw [e, Nat.sub_self] at q
    exact q
end Sc

namespace Sc
open PySem PySem.Spec PyProof.Rows L2 Sm
section
variable {X : Cx}
/-- two lists that may change, in a row -/
def qCatL : QO := fun d e S Q => ∃ a b ds es, d = .ref a ∧ e = .ref b ∧ S a = some (.lst ds) ∧ S b = some (.lst es) ∧ ds.length + es.length ≤ 100000 ∧ newL (ds ++ es) S Q
theorem o_catL : O2 X (binaryOp .Add) qCatL := ⟨fun d e S Q Q' hq ⟨a, b, ds, es, h1, h2, h3, h4, h5, q⟩ => ⟨a, b, ds, es, h1, h2, h3, h4, h5, newL.mono hq q⟩, _, op_cat, fun d e v u S H Q w r1 r2 ⟨a, b, ds, es, h1, h2, h3, h4, h5, q⟩ => by
  subst h1 h2
  obtain ⟨xs, k1, k2⟩ := w a _ h3
  obtain ⟨ys, k3, k4⟩ := w b _ h4
  exact ⟨a, b, xs, ys, r1, r2, k1, k3, by rw [k2.length, k4.length]; exact size_le h5, fun p hp => newL.run ⟨Same.refl _, w⟩ (k2.app k4) q hp⟩⟩
/-- a list that may change, so many times -/
def qRepL : QO := fun d e S Q => ∃ a ds k, d = .ref a ∧ e = .int k ∧ S a = some (.lst ds) ∧ -1000000 ≤ k ∧ k ≤ 1000000 ∧ ds.length * k.toNat ≤ 100000 ∧ newL (List.replicate k.toNat ds).flatten S Q
theorem o_repL : O2 X (binaryOp .Mult) qRepL := ⟨fun d e S Q Q' hq ⟨a, ds, k, h1, h2, h3, h4, h5, h6, q⟩ => ⟨a, ds, k, h1, h2, h3, h4, h5, h6, newL.mono hq q⟩, _, op_rep, fun d e v u S H Q w r1 r2 ⟨a, ds, k, h1, h2, h3, h4, h5, h6, q⟩ => by
  subst h1 h2
  obtain ⟨xs, k1, k2⟩ := w a _ h3
  exact ⟨a, k, xs, r1, r2, k1, by omega, by omega, by rw [k2.length]; exact size_le h6, fun p hp => newL.run ⟨Same.refl _, w⟩ (k2.rep k.toNat) q hp⟩⟩
end
/-! ### a store that grew from S, the bag at b drawn from -/
structure Ext (S : Cells) (b : Addr) (S' : Cells) : Prop where
  bag : Bag S' b
  use : ∀ Q d, Fg Q → (∀ c s, Q d (S.put b (.lst [.int c, .int s]))) → Q d S'
theorem Ext.base {S : Cells} {b : Addr} (h : Bag S b) : Ext S b S := ⟨h, fun Q d _ q => by
  obtain ⟨c, s, e⟩ := h
  have := q c s
  rw [put_self e] at this
  exact this⟩
theorem Ext.draw {S S' : Cells} {b : Addr} {c s : Int} (h : Ext S b S') : Ext S b (S'.put b (.lst [.int c, .int s])) := ⟨Bag.put, fun Q d frg q => by
  refine h.use (fun d S'' => Q d (S''.put b (.lst [.int c, .int s]))) d (fun d S2 p k hp q2 => ?_) (fun c2 s2 => by rw [Cells.put_put]; exact q c s)
  show Q d ((S2.put p k).put b (.lst [.int c, .int s]))
  by_cases e : p = b
  · rw [e, Cells.put_put]
    exact q2
  · have z := frg d (S2.put b (.lst [.int c, .int s])) p k (by rw [Cells.put_ne e]; exact hp) q2
    rw [put_comm e]
    exact z⟩
theorem Ext.fresh {S S' : Cells} {b p : Addr} {k : Cell} (h : Ext S b S') (hp : S' p = none) : Ext S b (S'.put p k) := by
  obtain ⟨c, s, e⟩ := h.bag
  exact ⟨⟨c, s, by rw [Cells.put_ne (Cells.ne_new e hp)]; exact e⟩, fun Q d frg q => frg d S' p k hp (h.use Q d frg q)⟩
end Sc

namespace Sm
/-- from T on, in steps of w, all is even -/
def Lin (T w : Int) (F : Int → Pg) : Prop := ∀ n, T ≤ n → ∃ f s q A B : Int, 0 ≤ q ∧ 0 ≤ B ∧ ∀ k : Int, 0 ≤ k → F (n + k * w) = (f + k * A, s, q + k * B)
/-- how an end moves with the count: from L on, evenly -/
theorem begP_lin (o : Option Int) : ∃ x : Int, (x = 0 ∨ x = 1) ∧ ∀ c j : Int, absB o ≤ c → 0 ≤ j → begP o (c + j) = begP o c + j * x := by
  cases o with
  | none => exact ⟨0, .inl rfl, fun c j _ _ => by simp [begP]⟩
  | some b =>
    have e : absB (some b) = (b.natAbs : Int) := rfl
    by_cases h : b < 0
    · refine ⟨1, .inr rfl, fun c j h1 h2 => ?_⟩
      rw [e] at h1
      simp only [begP, moved, if_pos h]
      omega
    · refine ⟨0, .inl rfl, fun c j h1 h2 => ?_⟩
      rw [e] at h1
      simp only [begP, moved, if_neg h]
      omega
theorem endP_lin (o : Option Int) : ∃ x : Int, (x = 0 ∨ x = 1) ∧ ∀ c j : Int, absB o ≤ c → 0 ≤ j → endP o (c + j) = endP o c + j * x := by
  cases o with
  | none => exact ⟨1, .inr rfl, fun c j _ _ => by simp [endP]⟩
  | some b =>
    have e : absB (some b) = (b.natAbs : Int) := rfl
    by_cases h : b < 0
    · refine ⟨1, .inr rfl, fun c j h1 h2 => ?_⟩
      rw [e] at h1
      simp only [endP, moved, if_pos h]
      omega
    · refine ⟨0, .inl rfl, fun c j h1 h2 => ?_⟩
      rw [e] at h1
      simp only [endP, moved, if_neg h]
      omega
theorem begN_lin (o : Option Int) : ∃ x : Int, (x = 0 ∨ x = 1) ∧ (x = 1 → 0 ≤ begN o (1 + absB o)) ∧ ∀ c j : Int, 1 + absB o ≤ c → 0 ≤ j → begN o (c + j) = begN o c + j * x := by
  cases o with
  | none => exact ⟨1, .inr rfl, fun _ => by decide, fun c j _ _ => by simp only [begN]; omega⟩
  | some b =>
    have e : absB (some b) = (b.natAbs : Int) := rfl
    by_cases h : b < 0
    · refine ⟨1, .inr rfl, fun _ => by rw [e]; simp only [begN, moved, if_pos h]; omega, fun c j h1 h2 => ?_⟩
      rw [e] at h1
      simp only [begN, moved, if_pos h]
      omega
    · refine ⟨0, .inl rfl, fun h => absurd h (by decide), fun c j h1 h2 => ?_⟩
      rw [e] at h1
      simp only [begN, moved, if_neg h]
      omega
theorem endN_lin (o : Option Int) : ∃ x : Int, (x = 0 ∨ x = 1) ∧ (x = 1 → 1 ≤ endN o (1 + absB o)) ∧ ∀ c j : Int, 1 + absB o ≤ c → 0 ≤ j → endN o (c + j) = endN o c + j * x := by
  cases o with
  | none => exact ⟨0, .inl rfl, fun h => absurd h (by decide), fun c j _ _ => by simp only [endN]; omega⟩
  | some b =>
    have e : absB (some b) = (b.natAbs : Int) := rfl
    by_cases h : b < 0
    · refine ⟨1, .inr rfl, fun _ => by rw [e]; simp only [endN, moved, if_pos h]; omega, fun c j h1 h2 => ?_⟩
      rw [e] at h1
      simp only [endN, moved, if_pos h]
      omega
    · refine ⟨0, .inl rfl, fun h => absurd h (by decide), fun c j h1 h2 => ?_⟩
      rw [e] at h1
      simp only [endN, moved, if_neg h]
      omega
/-- a count of so many: D grows by t times j, not at all, or is too small -/
theorem ceil_add {D t j : Int} (ht : 0 < t) (h : 0 ≤ D) (hj : 0 ≤ j) : max 0 ((D + t * j + t - 1) / t) = max 0 ((D + t - 1) / t) + j := by
  have e : D + t * j + t - 1 = (D + t - 1) + t * j := by omega
  rw [e, Int.add_mul_ediv_left _ _ (by omega)]
  have : 0 ≤ (D + t - 1) / t := Int.ediv_nonneg (by omega) (by omega)
  omega
theorem ceil_zero {D t : Int} (ht : 0 < t) (h : D ≤ 0) : max 0 ((D + t - 1) / t) = 0 := by
  have : (D + t - 1) / t < 1 := Int.ediv_lt_of_lt_mul ht (by omega)
  omega
/-- one slice, from a count of 1 + |start| + |stop| on: the begin and the count move evenly in steps of |t| -/
theorem slice_lin (s : Sl) (hs : okS s) : ∃ x y : Int, 0 ≤ y ∧ ∀ c j : Int, 1 + absB s.1 + absB s.2.1 ≤ c → 0 ≤ j →
    (endsOf s (c + (s.2.2.natAbs : Int) * j)).1 = (endsOf s c).1 + ((s.2.2.natAbs : Int) * j) * x ∧ manyOf s (c + (s.2.2.natAbs : Int) * j) = manyOf s c + j * y := by
  obtain ⟨a, b, t⟩ := s
  have ht : -3 ≤ t ∧ t ≤ 3 ∧ t ≠ 0 := hs.2.2
  have a1 := absB_nn a
  have b1 := absB_nn b
  by_cases h0 : 0 < t
  · have et : (t.natAbs : Int) = t := by omega
    obtain ⟨x, hx, kx⟩ := begP_lin a
    obtain ⟨y, hy, ky⟩ := endP_lin b
    show ∃ x y : Int, 0 ≤ y ∧ ∀ c j : Int, 1 + absB a + absB b ≤ c → 0 ≤ j → (endsOf (a, b, t) (c + (t.natAbs : Int) * j)).1 = (endsOf (a, b, t) c).1 + ((t.natAbs : Int) * j) * x ∧ manyOf (a, b, t) (c + (t.natAbs : Int) * j) = manyOf (a, b, t) c + j * y
    rw [et]
    have tj : ∀ j : Int, 0 ≤ j → 0 ≤ t * j := fun j hj => Int.mul_nonneg (by omega) hj
    refine ⟨x, if x = 0 ∧ y = 1 then 1 else 0, by split <;> omega, fun c j hc hj => ?_⟩
    have k1 := kx c (t * j) (by omega) (tj j hj)
    have k2 := ky c (t * j) (by omega) (tj j hj)
    rw [ends_pos h0, ends_pos h0, many_pos h0, many_pos h0]
    refine ⟨k1, ?_⟩
    have j0 := tj j hj
    rcases hx with rfl | rfl <;> rcases hy with rfl | rfl
    · rw [k1, k2]; simp
    · rw [k1, k2]
      simp only [Int.mul_zero, Int.mul_one, Int.add_zero, and_self, if_true]
      have d : endP b c + t * j - begP a c + t - 1 = (endP b c - begP a c) + t * j + t - 1 := by omega
      rw [d]
      refine ceil_add h0 ?_ hj
      have z1 : begP a c ≤ absB a := by
        have := kx (absB a) (c - absB a) (Int.le_refl _) (by omega)
        rw [show absB a + (c - absB a) = c by omega] at this
        have w := begP_in (o := a) (c := absB a) a1
        omega
      have z2 : c - absB b ≤ endP b c := by
        have := ky (absB b) (c - absB b) (Int.le_refl _) (by omega)
        rw [show absB b + (c - absB b) = c by omega] at this
        have w := endP_in (o := b) (c := absB b) b1
        omega
      omega
    · have n1 : ¬ ((1 : Int) = 0 ∧ (0 : Int) = 1) := by omega
      rw [if_neg n1, Int.mul_zero, Int.add_zero]
      have z1 : c - absB a ≤ begP a c := by
        have := kx (absB a) (c - absB a) (Int.le_refl _) (by omega)
        rw [show absB a + (c - absB a) = c by omega] at this
        have w := begP_in (o := a) (c := absB a) a1
        omega
      have z2 : endP b c ≤ absB b := by
        have := ky (absB b) (c - absB b) (Int.le_refl _) (by omega)
        rw [show absB b + (c - absB b) = c by omega] at this
        have w := endP_in (o := b) (c := absB b) b1
        omega
      rw [ceil_zero h0 (by omega), ceil_zero h0 (by omega)]
    · rw [k1, k2]
      have n1 : ¬ ((1 : Int) = 0 ∧ (1 : Int) = 1) := by omega
      rw [if_neg n1, Int.mul_zero, Int.add_zero]
      have d : endP b c + t * j * 1 - (begP a c + t * j * 1) + t - 1 = endP b c - begP a c + t - 1 := by omega
      rw [d]
  · have et : (t.natAbs : Int) = -t := by omega
    obtain ⟨x, hx, hx1, kx⟩ := begN_lin a
    obtain ⟨y, hy, hy1, ky⟩ := endN_lin b
    show ∃ x y : Int, 0 ≤ y ∧ ∀ c j : Int, 1 + absB a + absB b ≤ c → 0 ≤ j → (endsOf (a, b, t) (c + (t.natAbs : Int) * j)).1 = (endsOf (a, b, t) c).1 + ((t.natAbs : Int) * j) * x ∧ manyOf (a, b, t) (c + (t.natAbs : Int) * j) = manyOf (a, b, t) c + j * y
    rw [et]
    obtain ⟨u, rfl⟩ : ∃ u, t = -u := ⟨-t, by omega⟩
    have eu : - -u = u := by omega
    rw [eu]
    have hu : 0 < u := by omega
    have tj : ∀ j : Int, 0 ≤ j → 0 ≤ u * j := fun j hj => Int.mul_nonneg (by omega) hj
    refine ⟨x, if x = 1 ∧ y = 0 then 1 else 0, by split <;> omega, fun c j hc hj => ?_⟩
    have k1 := kx c (u * j) (by omega) (tj j hj)
    have k2 := ky c (u * j) (by omega) (tj j hj)
    rw [ends_neg h0, ends_neg h0, many_neg h0, many_neg h0, eu]
    refine ⟨k1, ?_⟩
    have j0 := tj j hj
    have r : ∀ p q : Int, p - q - -u - 1 = p - q + u - 1 := fun p q => by omega
    rw [r, r]
    rcases hx with rfl | rfl <;> rcases hy with rfl | rfl
    · rw [k1, k2]; simp
    · have n1 : ¬ ((0 : Int) = 1 ∧ (1 : Int) = 0) := by omega
      rw [if_neg n1, Int.mul_zero, Int.add_zero]
      have z1 : begN a c ≤ absB a := by
        have := kx (1 + absB a) (c - (1 + absB a)) (Int.le_refl _) (by omega)
        rw [show 1 + absB a + (c - (1 + absB a)) = c by omega] at this
        have w := begN_in (o := a) (c := 1 + absB a) (by omega)
        omega
      have z2 : c - absB b ≤ endN b c := by
        have := ky (1 + absB b) (c - (1 + absB b)) (Int.le_refl _) (by omega)
        rw [show 1 + absB b + (c - (1 + absB b)) = c by omega] at this
        have w := hy1 rfl
        omega
      simp only [Int.mul_zero, Int.mul_one, Int.add_zero] at k1 k2
      rw [k1, k2, ceil_zero hu (by omega), ceil_zero hu (by omega)]
    · rw [k1, k2]
      simp only [Int.mul_zero, Int.mul_one, Int.add_zero, and_self, if_true]
      have d : begN a c + u * j - endN b c + u - 1 = (begN a c - endN b c) + u * j + u - 1 := by omega
      rw [d]
      refine ceil_add hu ?_ hj
      have z1 : c - 1 - absB a ≤ begN a c := by
        have := kx (1 + absB a) (c - (1 + absB a)) (Int.le_refl _) (by omega)
        rw [show 1 + absB a + (c - (1 + absB a)) = c by omega] at this
        have w := hx1 rfl
        omega
      have z2 : endN b c ≤ absB b := by
        have := ky (1 + absB b) (c - (1 + absB b)) (Int.le_refl _) (by omega)
        rw [show 1 + absB b + (c - (1 + absB b)) = c by omega] at this
        have w := endN_in (o := b) (c := 1 + absB b) (by omega)
        omega
      omega
    · rw [k1, k2]
      have n1 : ¬ ((1 : Int) = 1 ∧ (1 : Int) = 0) := by omega
      rw [if_neg n1, Int.mul_zero, Int.add_zero]
      have d : begN a c + u * j * 1 - (endN b c + u * j * 1) + u - 1 = begN a c - endN b c + u - 1 := by omega
      rw [d]
theorem lin_step {T w : Int} {F : Int → Pg} (h : Lin T w F) (hw : 0 < w) {s : Sl} (hs : okS s) : Lin (T + w * (1 + absB s.1 + absB s.2.1)) (w * (s.2.2.natAbs : Int)) (fun n => applied s (F n)) := by
  intro n hn
  have hs3 := hs.2.2
  obtain ⟨τ, eτ⟩ : ∃ τ : Int, τ = (s.2.2.natAbs : Int) := ⟨_, rfl⟩
  have hτ : 0 < τ := by omega
  obtain ⟨L, eL⟩ : ∃ L : Int, L = 1 + absB s.1 + absB s.2.1 := ⟨_, rfl⟩
  have a1 := absB_nn s.1
  have b1 := absB_nn s.2.1
  have hL : 0 ≤ L := by omega
  rw [← eL] at hn
  rw [← eτ]
  obtain ⟨f, σ, q, A, B, hq, hB, k⟩ := h (n - L * w) (by rw [Int.mul_comm L w]; omega)
  have go : ∀ k : Int, 0 ≤ k → F (n + k * (w * τ)) = (f + (L + k * τ) * A, σ, q + (L + k * τ) * B) := fun i hi => by
    rw [← k (L + i * τ) (by have := Int.mul_nonneg hi (Int.le_of_lt hτ); omega)]
    congr 1
    rw [Int.add_mul, Int.mul_assoc i τ w, Int.mul_comm τ w]
    omega
  by_cases hB0 : B = 0
  · subst hB0
    refine ⟨f + L * A + σ * (endsOf s q).1, σ * s.2.2, manyOf s q, τ * A, 0, many_nn _ _, Int.le_refl _, fun i hi => ?_⟩
    show applied s (F (n + i * (w * τ))) = _
    rw [go i hi]
    unfold applied
    simp only [Int.mul_zero, Int.add_zero]
    refine Prod.ext ?_ rfl
    show f + (L + i * τ) * A + σ * (endsOf s q).1 = f + L * A + σ * (endsOf s q).1 + i * (τ * A)
    rw [Int.add_mul, Int.mul_assoc i τ A]
    omega
  · obtain ⟨x, y, hy, z⟩ := slice_lin s hs
    rw [← eτ, ← eL] at z
    have hLB : L ≤ q + L * B := by
      have : L * 1 ≤ L * B := Int.mul_le_mul_of_nonneg_left (by omega) hL
      omega
    refine ⟨f + L * A + σ * (endsOf s (q + L * B)).1, σ * s.2.2, manyOf s (q + L * B), τ * A + σ * (τ * B * x), B * y, many_nn _ _, Int.mul_nonneg hB hy, fun i hi => ?_⟩
    show applied s (F (n + i * (w * τ))) = _
    rw [go i hi]
    have ec : q + (L + i * τ) * B = q + L * B + τ * (i * B) := by
      rw [Int.add_mul, Int.mul_assoc i τ B, Int.mul_left_comm i τ B]
      omega
    rw [ec]
    have z2 := z (q + L * B) (i * B) hLB (Int.mul_nonneg hi hB)
    unfold applied
    refine Prod.ext ?_ (Prod.ext rfl ?_)
    · show f + (L + i * τ) * A + σ * (endsOf s (q + L * B + τ * (i * B))).1 = f + L * A + σ * (endsOf s (q + L * B)).1 + i * (τ * A + σ * (τ * B * x))
      rw [z2.1, Int.mul_add, Int.add_mul, Int.mul_add i, Int.mul_assoc i τ A]
      have e1 : σ * (τ * (i * B) * x) = i * (σ * (τ * B * x)) := by
        simp only [Int.mul_comm, Int.mul_left_comm, Int.mul_assoc]
      rw [e1]
      omega
    · show manyOf s (q + L * B + τ * (i * B)) = manyOf s (q + L * B) + i * (B * y)
      rw [z2.2, Int.mul_assoc]
theorem lin_wts : ∀ (c : List Sl) (p : Int × Int) (F : Int → Pg), (∀ s, s ∈ c → okS s) → 0 < p.2 → Lin p.1 p.2 F → Lin (wts c p).1 (wts c p).2 (fun n => shownF c (F n))
  | [], p, F, _, _, h => h
  | s :: c, p, F, hc, hp, h => by
    have hs := hc s List.mem_cons_self
    have h3 := hs.2.2
    exact lin_wts c (p.1 + p.2 * (1 + absB s.1 + absB s.2.1), p.2 * (s.2.2.natAbs : Int)) _ (fun s hs => hc s (List.mem_cons_of_mem _ hs)) (Int.mul_pos hp (by omega)) (lin_step h hp hs)
theorem lin_shown {c : List Sl} (hc : okC c) : Lin (thr c) (per c) (shown c) := by
  refine lin_wts c (0, 1) (fun n => (0, 1, n)) hc.2 (by decide) fun n hn => ⟨0, 1, n, 0, 1, hn, by decide, fun k _ => ?_⟩
  show ((0 : Int), (1 : Int), n + k * 1) = (0 + k * 0, 1, n + k * 1)
  rw [Int.mul_zero]
  rfl
theorem Lin.mult {T w m : Int} {F : Int → Pg} (h : Lin T w F) (hm : 0 ≤ m) : Lin T (m * w) F := fun n hn => by
  obtain ⟨f, s, q, A, B, hq, hB, k⟩ := h n hn
  refine ⟨f, s, q, m * A, m * B, hq, Int.mul_nonneg hm hB, fun i hi => ?_⟩
  rw [← Int.mul_assoc, k (i * m) (Int.mul_nonneg hi hm), Int.mul_assoc, Int.mul_assoc]
/-- three in a row say all -/
theorem lin_agree {T P : Int} {F G : Int → Pg} (hF : Lin T P F) (hG : Lin T P G) {n : Int} (hn : T ≤ n) (h0 : cleaned (F n) = cleaned (G n)) (h1 : cleaned (F (n + P)) = cleaned (G (n + P))) (h2 : cleaned (F (n + 2 * P)) = cleaned (G (n + 2 * P))) :
    ∀ k : Int, 0 ≤ k → cleaned (F (n + k * P)) = cleaned (G (n + k * P)) := by
  obtain ⟨f, s, q, A, B, hq, hB, kF⟩ := hF n hn
  obtain ⟨f', s', q', A', B', hq', hB', kG⟩ := hG n hn
  have a0 := kF 0 (Int.le_refl _)
  have a1 := kF 1 (by decide)
  have a2 := kF 2 (by decide)
  have b0 := kG 0 (Int.le_refl _)
  have b1 := kG 1 (by decide)
  have b2 := kG 2 (by decide)
  simp only [Int.zero_mul, Int.add_zero, Int.one_mul] at a0 a1 a2 b0 b1 b2
  rw [a0, b0] at h0
  rw [a1, b1] at h1
  rw [a2, b2] at h2
  unfold cleaned at h0 h1 h2
  simp only [Prod.mk.injEq] at h0 h1 h2
  obtain ⟨x0, y0, z0⟩ := h0
  obtain ⟨x1, y1, z1⟩ := h1
  obtain ⟨x2, y2, z2⟩ := h2
  have eB : B = B' := by omega
  subst z0 eB
  intro k hk
  rw [kF k hk, kG k hk]
  unfold cleaned
  simp only [Prod.mk.injEq, and_true]
  by_cases hB0 : B = 0
  · subst hB0
    simp only [Int.mul_zero, Int.add_zero] at *
    by_cases g0 : q > 0
    · simp only [if_pos g0, Option.some.injEq] at x0 x1 ⊢
      have eA : A = A' := by omega
      subst eA
      exact ⟨by omega, y0⟩
    · have g1 : ¬ q > 1 := by omega
      simp only [if_neg g0, if_neg g1, and_self]
  · have g1 : q + B > 0 := by omega
    have g2 : q + 2 * B > 0 := by omega
    have g3 : q + 2 * B > 1 := by omega
    simp only [if_pos g1, Option.some.injEq] at x1
    simp only [if_pos g2, Option.some.injEq] at x2
    simp only [if_pos g3, Option.some.injEq] at y2
    have eA : A = A' := by omega
    have ef : f = f' := by omega
    subst eA ef y2
    exact ⟨rfl, rfl⟩
theorem lin_both {c d : List Sl} (hc : okC c) (hd : okC d) : Lin (lastT c d) (bothP c d) (shown c) ∧ Lin (lastT c d) (bothP c d) (shown d) := by
  have p1 := per_pos hc
  have p2 := per_pos hd
  unfold bothP lcmI
  obtain ⟨x, hx⟩ := Nat.dvd_lcm_left (per c).natAbs (per d).natAbs
  obtain ⟨y, hy⟩ := Nat.dvd_lcm_right (per c).natAbs (per d).natAbs
  have m1 := (lin_shown hc).mult (m := (x : Int)) (by omega)
  have m2 := (lin_shown hd).mult (m := (y : Int)) (by omega)
  have e1 : (((per c).natAbs.lcm (per d).natAbs : Nat) : Int) = (x : Int) * per c := by
    rw [hx, Int.natCast_mul, Int.mul_comm, Int.natAbs_of_nonneg (by omega)]
  have e2 : (((per c).natAbs.lcm (per d).natAbs : Nat) : Int) = (y : Int) * per d := by
    rw [hy, Int.natCast_mul, Int.mul_comm, Int.natAbs_of_nonneg (by omega)]
  constructor
  · rw [e1]
    exact fun n hn => m1 n (by unfold lastT at hn; omega)
  · rw [e2]
    exact fun n hn => m2 n (by unfold lastT at hn; omega)
theorem bothP_pos {c d : List Sl} (hc : okC c) (hd : okC d) : 0 < bothP c d := by
  have p1 := per_pos hc
  have p2 := per_pos hd
  unfold bothP lcmI
  have := Nat.lcm_pos (m := (per c).natAbs) (n := (per d).natAbs) (by omega) (by omega)
  omega
/-- no difference below the bound: none at all -/
theorem none_all {c d : List Sl} (hc : okC c) (hd : okC d) (h : firstD c d = none) {n : Int} (hn : 0 ≤ n) : clean c n = clean d n := by
  unfold firstD at h
  rw [search_none] at h
  have low : ∀ i : Int, 0 ≤ i → i < bnd c d → clean c i = clean d i := fun i h1 h2 => by
    have := h i h1 (by omega)
    unfold unlike at this
    simpa using this
  have hP := bothP_pos hc hd
  have hT : 0 ≤ lastT c d := by unfold lastT; have := thr_nn hc; omega
  by_cases hb : n < bnd c d
  · exact low n hn hb
  · obtain ⟨l1, l2⟩ := lin_both hc hd
    obtain ⟨P, eP⟩ : ∃ P, P = bothP c d := ⟨_, rfl⟩
    obtain ⟨T, eT⟩ : ∃ T, T = lastT c d := ⟨_, rfl⟩
    have ebn : bnd c d = T + 3 * P := by rw [eT, eP]; rfl
    rw [← eP] at l1 l2 hP
    rw [← eT] at l1 l2 hT
    have hm := Int.emod_nonneg (n - T) (b := P) (by omega)
    have hm2 := Int.emod_lt_of_pos (n - T) hP
    have hd2 := Int.emod_add_mul_ediv (n - T) P
    have hk : 0 ≤ (n - T) / P := Int.ediv_nonneg (by omega) (by omega)
    have z := lin_agree l1 l2 (n := T + (n - T) % P) (by omega) (low _ (by omega) (by omega)) (low _ (by omega) (by omega)) (low _ (by omega) (by omega)) ((n - T) / P) hk
    have e : T + (n - T) % P + (n - T) / P * P = n := by
      rw [Int.mul_comm ((n - T) / P) P]
      omega
    rw [e] at z
    exact z
end Sm

namespace Sm
/-- the same places -/
def Eqv (p q : Pg) : Prop := p.2.2 = q.2.2 ∧ (0 < p.2.2 → p.1 = q.1) ∧ (1 < p.2.2 → p.2.1 = q.2.1)
theorem Eqv.rfl' (p : Pg) : Eqv p p := ⟨rfl, fun _ => rfl, fun _ => rfl⟩
theorem Eqv.clean {p q : Pg} (h : Eqv p q) : cleaned p = cleaned q := by
  obtain ⟨f, s, c⟩ := p
  obtain ⟨f', s', c'⟩ := q
  obtain ⟨h1, h2, h3⟩ := h
  have h1 : c = c' := h1
  subst h1
  have h2 : 0 < c → f = f' := h2
  have h3 : 1 < c → s = s' := h3
  unfold cleaned
  by_cases a : c > 0
  · rw [h2 a]
    by_cases b : c > 1
    · rw [h3 b]
    · simp only [if_neg b]
  · have b : ¬ c > 1 := by omega
    simp only [if_neg a, if_neg b]
/-- with kept places, the begin is a place -/
theorem begin_in {s : Sl} {c : Int} (hs : okS s) (hc : 0 ≤ c) (h : 0 < manyOf s c) : 0 ≤ (endsOf s c).1 ∧ (endsOf s c).1 < c := by
  obtain ⟨a, b, t⟩ := s
  have ht : t ≠ 0 := hs.2.2.2.2
  by_cases h0 : 0 < t
  · rw [many_pos h0] at h
    rw [ends_pos h0]
    have k1 := begP_in (o := a) hc
    have k2 := endP_in (o := b) hc
    have : 0 < endP b c - begP a c := by
      by_cases z : 0 < endP b c - begP a c
      · exact z
      · have := ceil_zero (D := endP b c - begP a c) h0 (by omega)
        omega
    exact ⟨k1.1, by show begP a c < c; omega⟩
  · rw [many_neg h0] at h
    rw [ends_neg h0]
    have k1 := begN_in (o := a) hc
    have k2 := endN_in (o := b) hc
    have e : begN a c - endN b c - t - 1 = begN a c - endN b c + (-t) - 1 := by omega
    rw [e] at h
    have : 0 < begN a c - endN b c := by
      by_cases z : 0 < begN a c - endN b c
      · exact z
      · have := ceil_zero (D := begN a c - endN b c) (t := -t) (by omega) (by omega)
        omega
    exact ⟨by show 0 ≤ begN a c; omega, by show begN a c < c; omega⟩
theorem Eqv.applied {p q : Pg} (h : Eqv p q) (hp : 0 ≤ p.2.2) {s : Sl} (hs : okS s) : Eqv (applied s p) (applied s q) := by
  obtain ⟨f, u, c⟩ := p
  obtain ⟨f', u', c'⟩ := q
  obtain ⟨h1, h2, h3⟩ := h
  have h1 : c = c' := h1
  subst h1
  have h2 : 0 < c → f = f' := h2
  have h3 : 1 < c → u = u' := h3
  have hp : 0 ≤ c := hp
  refine ⟨rfl, fun k => ?_, fun k => ?_⟩
  · have k : 0 < manyOf s c := k
    have b := begin_in hs hp k
    show f + u * (endsOf s c).1 = f' + u' * (endsOf s c).1
    by_cases c1 : 1 < c
    · rw [h2 (by omega), h3 c1]
    · have e : (endsOf s c).1 = 0 := by omega
      rw [e, h2 (by omega)]
      simp
  · have k : 1 < manyOf s c := k
    have m := many_le hs hp
    show u * s.2.2 = u' * s.2.2
    rw [h3 (by omega)]
theorem Eqv.shownF : ∀ (c : List Sl) {p q : Pg}, Eqv p q → 0 ≤ p.2.2 → (∀ s, s ∈ c → okS s) → Eqv (shownF c p) (shownF c q)
  | [], _, _, h, _, _ => h
  | s :: c, p, q, h, hp, hc => Eqv.shownF c (h.applied hp (hc s List.mem_cons_self)) (many_nn _ _) fun s hs => hc s (List.mem_cons_of_mem _ hs)
/-- alike wherever they are put -/
def Same2 (c d : List Sl) : Prop := ∀ p : Pg, 0 ≤ p.2.2 → Eqv (Sm.shownF c p) (Sm.shownF d p)
theorem Same2.clean {c d a b : List Sl} (h : Same2 c d) (ha : ∀ s, s ∈ a → okS s) (hb : ∀ s, s ∈ b → okS s) {n : Int} (hn : 0 ≤ n) : Sm.clean (a ++ c ++ b) n = Sm.clean (a ++ d ++ b) n := by
  unfold Sm.clean
  refine Eqv.clean ?_
  rw [shown_app, shown_app, shown_app, shown_app]
  have p0 := shownF_count a (0, 1, n) ha hn
  have e := h (shown a n) p0.1
  obtain ⟨e1, e2, e3⟩ := e
  have pc : 0 ≤ (Sm.shownF c (shown a n)).2.2 ∨ (Sm.shownF c (shown a n)).2.2 < 0 := by omega
  rcases pc with pc | pc
  · exact Eqv.shownF b ⟨e1, e2, e3⟩ pc hb
  · exact Eqv.shownF b ⟨e1, e2, e3⟩ (by
      cases c with
      | nil => exact p0.1
      | cons s c =>
        exfalso
        have : ∀ (l : List Sl) (q : Pg), 0 ≤ q.2.2 → 0 ≤ (Sm.shownF l q).2.2 := by
          intro l
          induction l with
          | nil => exact fun q h => h
          | cons s l ih => exact fun q _ => ih _ (many_nn _ _)
        have := this (s :: c) (shown a n) p0.1
        omega) hb
theorem firstD_none {c d : List Sl} (h : ∀ n : Int, 0 ≤ n → clean c n = clean d n) : firstD c d = none := by
  unfold firstD
  rw [search_none]
  intro i h1 _
  unfold unlike
  rw [h i h1]
  simp
/-! ### slices of step 1, as numbers -/
theorem ap_from {a : Int} {f u c : Int} (ha : 0 ≤ a) (hc : 0 ≤ c) : applied (some a, none, 1) (f, u, c) = (f + u * min a c, u, c - min a c) := by
  unfold applied
  rw [many_pos (by decide), ends_pos (by decide)]
  simp only [begP, endP, moved, if_neg (show ¬ a < 0 by omega), Int.mul_one]
  refine Prod.ext ?_ (Prod.ext rfl ?_)
  · show f + u * max 0 (min c a) = f + u * min a c
    have e : max 0 (min c a) = min a c := by omega
    rw [e]
  · show max 0 ((c - max 0 (min c a) + 1 - 1) / 1) = c - min a c
    rw [Int.ediv_one]
    omega
theorem ap_to {a : Int} {f u c : Int} (ha : 0 ≤ a) (hc : 0 ≤ c) : applied (none, some a, 1) (f, u, c) = (f, u, min a c) := by
  unfold applied
  rw [many_pos (by decide), ends_pos (by decide)]
  simp only [begP, endP, moved, if_neg (show ¬ a < 0 by omega), Int.mul_one, Int.mul_zero, Int.add_zero]
  refine Prod.ext rfl (Prod.ext rfl ?_)
  show max 0 ((max 0 (min c a) - 0 + 1 - 1) / 1) = min a c
  rw [Int.ediv_one]
  omega
theorem ap_both {a b : Int} {f u c : Int} (ha : 0 ≤ a) (hb : a ≤ b) (hc : 0 ≤ c) : applied (some a, some b, 1) (f, u, c) = (f + u * min a c, u, min b c - min a c) := by
  unfold applied
  rw [many_pos (by decide), ends_pos (by decide)]
  simp only [begP, endP, moved, if_neg (show ¬ a < 0 by omega), if_neg (show ¬ b < 0 by omega), Int.mul_one]
  refine Prod.ext ?_ (Prod.ext rfl ?_)
  · show f + u * max 0 (min c a) = f + u * min a c
    have e : max 0 (min c a) = min a c := by omega
    rw [e]
  · show max 0 ((max 0 (min c b) - max 0 (min c a) + 1 - 1) / 1) = min b c - min a c
    rw [Int.ediv_one]
    omega
/-- without the last a -/
theorem ap_less {a : Int} {f u c : Int} (ha : 0 < a) (hc : 0 ≤ c) : applied (none, some (0 - a), 1) (f, u, c) = (f, u, max 0 (c - a)) := by
  unfold applied
  rw [many_pos (by decide), ends_pos (by decide)]
  simp only [begP, endP, moved, if_pos (show 0 - a < 0 by omega), Int.mul_one, Int.mul_zero, Int.add_zero]
  refine Prod.ext rfl (Prod.ext rfl ?_)
  show max 0 ((max 0 (min c (0 - a + c)) - 0 + 1 - 1) / 1) = max 0 (c - a)
  rw [Int.ediv_one]
  omega
theorem ap_all {f u c : Int} (hc : 0 ≤ c) : applied (none, none, 1) (f, u, c) = (f, u, c) := by
  unfold applied
  rw [many_pos (by decide), ends_pos (by decide)]
  simp only [begP, endP, Int.mul_one, Int.mul_zero, Int.add_zero]
  refine Prod.ext rfl (Prod.ext rfl ?_)
  show max 0 ((c - 0 + 1 - 1) / 1) = c
  rw [Int.ediv_one]
  omega
theorem ap_rev {f u c : Int} (hc : 0 ≤ c) : applied (none, none, -1) (f, u, c) = (f + u * (c - 1), -u, c) := by
  unfold applied
  rw [many_neg (by decide), ends_neg (by decide)]
  simp only [begN, endN]
  refine Prod.ext rfl (Prod.ext ?_ ?_)
  · show u * (-1) = -u
    omega
  · show max 0 ((c - 1 - -1 - -1 - 1) / (- -1)) = c
    rw [show (- -1 : Int) = 1 by decide, Int.ediv_one]
    omega
theorem rule0 {a b : Int} (ha : 0 ≤ a) (hb : 0 ≤ b) : Same2 [(some a, none, 1), (some b, none, 1)] [(some (a + b), none, 1)] := by
  rintro ⟨f, u, c⟩ hc
  have hc : 0 ≤ c := hc
  show Eqv (applied _ (applied _ _)) (applied _ _)
  rw [ap_from ha hc, ap_from hb (by omega), ap_from (by omega) hc]
  refine ⟨by show c - min a c - min b (c - min a c) = c - min (a + b) c; omega, fun _ => ?_, fun _ => rfl⟩
  show f + u * min a c + u * min b (c - min a c) = f + u * min (a + b) c
  have e : min (a + b) c = min a c + min b (c - min a c) := by omega
  rw [e, Int.mul_add]
  omega
theorem rule1 {a b : Int} (ha : 0 ≤ a) (hb : 0 ≤ b) : Same2 [(none, some a, 1), (none, some b, 1)] [(none, some (min a b), 1)] := by
  rintro ⟨f, u, c⟩ hc
  have hc : 0 ≤ c := hc
  show Eqv (applied _ (applied _ _)) (applied _ _)
  rw [ap_to ha hc, ap_to hb (by omega), ap_to (by omega) hc]
  exact ⟨by show min b (min a c) = min (min a b) c; omega, fun _ => rfl, fun _ => rfl⟩
theorem rule2 {a : Int} (ha : 0 ≤ a) : Same2 [(none, none, -1), (some a, none, 1)] [(none, if a > 0 then some (0 - a) else none, 1), (none, none, -1)] := by
  rintro ⟨f, u, c⟩ hc
  have hc : 0 ≤ c := hc
  show Eqv (applied _ (applied _ _)) (applied _ (applied _ _))
  rw [ap_rev hc, ap_from ha hc]
  by_cases h : a > 0
  · rw [if_pos h, ap_less h hc, ap_rev (by omega)]
    refine ⟨by show c - min a c = max 0 (c - a); omega, fun k => ?_, fun _ => rfl⟩
    have k : 0 < c - min a c := k
    show f + u * (c - 1) + -u * min a c = f + u * (max 0 (c - a) - 1)
    have e1 : min a c = a := by omega
    have e2 : max 0 (c - a) - 1 = (c - 1) - a := by omega
    have e3 : u * ((c - 1) - a) = u * (c - 1) - u * a := Int.mul_sub ..
    rw [e1, e2, e3, Int.neg_mul]
    omega
  · rw [if_neg h, ap_all hc, ap_rev hc]
    have e1 : min a c = 0 := by omega
    rw [e1]
    refine ⟨by show c - 0 = c; omega, fun _ => ?_, fun _ => rfl⟩
    show f + u * (c - 1) + -u * 0 = f + u * (c - 1)
    omega
theorem rule3 {a b : Int} (ha : 0 ≤ a) (hb : 0 ≤ b) : Same2 [(some a, none, 1), (none, some b, 1)] [(some a, some (a + b), 1)] := by
  rintro ⟨f, u, c⟩ hc
  have hc : 0 ≤ c := hc
  show Eqv (applied _ (applied _ _)) (applied _ _)
  rw [ap_from ha hc, ap_to hb (by omega), ap_both ha (by omega) hc]
  exact ⟨by show min b (c - min a c) = min (a + b) c - min a c; omega, fun _ => rfl, fun _ => rfl⟩
theorem rule4 {a t : Int} (ha : 0 ≤ a) (ht : 0 < t) : Same2 [(some a, none, 1), (none, none, t)] [(some a, none, t)] := by
  rintro ⟨f, u, c⟩ hc
  have hc : 0 ≤ c := hc
  show Eqv (applied _ (applied _ _)) (applied _ _)
  rw [ap_from ha hc]
  unfold applied
  rw [many_pos ht, many_pos ht, ends_pos ht, ends_pos ht]
  simp only [begP, endP, moved, if_neg (show ¬ a < 0 by omega), Int.mul_zero, Int.add_zero, Int.sub_zero]
  have e : max 0 (min c a) = min a c := by omega
  rw [e]
  exact ⟨rfl, fun _ => rfl, fun _ => rfl⟩
theorem rule5 : Same2 [(none, none, -1), (none, none, -1)] [(none, none, 1)] := by
  rintro ⟨f, u, c⟩ hc
  have hc : 0 ≤ c := hc
  show Eqv (applied _ (applied _ _)) (applied _ _)
  rw [ap_rev hc, ap_rev hc, ap_all hc]
  refine ⟨rfl, fun _ => ?_, fun _ => by show - -u = u; omega⟩
  show f + u * (c - 1) + -u * (c - 1) = f
  rw [Int.neg_mul]
  omega
end Sm

namespace Sm
/-- the places of a progression -/
def plc (p : Pg) : List Int := (List.range p.2.2.toNat).map fun (i : Nat) => p.1 + p.2.1 * (i : Int)
theorem plc_len (p : Pg) : (plc p).length = p.2.2.toNat := by
  unfold plc
  rw [List.length_map, List.length_range]
theorem plc_get {p : Pg} {i : Nat} (h : i < p.2.2.toNat) : (plc p)[i]? = some (p.1 + p.2.1 * (i : Int)) := by
  unfold plc
  rw [List.getElem?_map, List.getElem?_range h]
  rfl
theorem plc_eqv {p q : Pg} (hp : 0 ≤ p.2.2) (hq : 0 ≤ q.2.2) (h : plc p = plc q) : Eqv p q := by
  have hl : p.2.2.toNat = q.2.2.toNat := by rw [← plc_len, ← plc_len, h]
  have e : p.2.2 = q.2.2 := by omega
  have z0 : 0 < p.2.2 → p.1 = q.1 := fun k => by
    have a := plc_get (p := p) (i := 0) (by omega)
    have b := plc_get (p := q) (i := 0) (by omega)
    rw [h, b] at a
    have a := Option.some.inj a
    simp at a
    exact a.symm
  refine ⟨e, z0, fun k => ?_⟩
  have a := plc_get (p := p) (i := 1) (by omega)
  have b := plc_get (p := q) (i := 1) (by omega)
  rw [h, b] at a
  have a := Option.some.inj a
  have z := z0 (by omega)
  simp at a
  omega
theorem Eqv.plc {p q : Pg} (h : Eqv p q) : Sm.plc p = Sm.plc q := by
  obtain ⟨h1, h2, h3⟩ := h
  unfold Sm.plc
  rw [← h1]
  refine List.map_congr_left fun i hi => ?_
  have hi := List.mem_range.mp hi
  rw [h2 (by omega)]
  by_cases k : 1 < p.2.2
  · rw [h3 k]
  · have : i = 0 := by omega
    subst this
    simp
/-- the places of a slice are places -/
theorem slice_place {s : Sl} {c k : Int} (hs : okS s) (hc : 0 ≤ c) (h0 : 0 ≤ k) (h : k < manyOf s c) : 0 ≤ (endsOf s c).1 + s.2.2 * k ∧ (endsOf s c).1 + s.2.2 * k < c := by
  obtain ⟨a, b, t⟩ := s
  have ht : t ≠ 0 := hs.2.2.2.2
  by_cases hp : 0 < t
  · rw [many_pos hp] at h
    rw [ends_pos hp]
    show 0 ≤ begP a c + t * k ∧ begP a c + t * k < c
    have k1 := begP_in (o := a) hc
    have k2 := endP_in (o := b) hc
    have h2 : k + 1 ≤ (endP b c - begP a c + t - 1) / t := by omega
    rw [Int.le_ediv_iff_mul_le hp, Int.add_mul, Int.mul_comm k t] at h2
    have h3 : 0 ≤ t * k := Int.mul_nonneg (by omega) h0
    omega
  · rw [many_neg hp] at h
    rw [ends_neg hp]
    show 0 ≤ begN a c + t * k ∧ begN a c + t * k < c
    have k1 := begN_in (o := a) hc
    have k2 := endN_in (o := b) hc
    obtain ⟨u, rfl⟩ : ∃ u, t = -u := ⟨-t, by omega⟩
    have eu : - -u = u := by omega
    rw [eu] at h
    have hu : 0 < u := by omega
    have h2 : k + 1 ≤ (begN a c - endN b c - -u - 1) / u := by omega
    rw [Int.le_ediv_iff_mul_le hu, Int.add_mul, Int.mul_comm k u] at h2
    have h3 : 0 ≤ u * k := Int.mul_nonneg (by omega) h0
    rw [Int.neg_mul]
    omega
theorem shownF_lin : ∀ (c : List Sl) (f u q : Int), shownF c (f, u, q) = (f + u * (shownF c (0, 1, q)).1, u * (shownF c (0, 1, q)).2.1, (shownF c (0, 1, q)).2.2)
  | [], f, u, q => by
    show (f, u, q) = (f + u * 0, u * 1, q)
    simp
  | s :: c, f, u, q => by
    rw [shownF_cons, shownF_cons]
    unfold applied
    simp only
    rw [shownF_lin c (f + u * (endsOf s q).1) (u * s.2.2) (manyOf s q), shownF_lin c (0 + 1 * (endsOf s q).1) (1 * s.2.2) (manyOf s q)]
    generalize shownF c (0, 1, manyOf s q) = y
    simp only [Int.zero_add, Int.one_mul, Int.mul_add, Int.mul_assoc, Int.add_assoc]
theorem shown_place : ∀ (c : List Sl) (q k : Int), (∀ s, s ∈ c → okS s) → 0 ≤ q → 0 ≤ k → k < (shownF c (0, 1, q)).2.2 → 0 ≤ (shownF c (0, 1, q)).1 + (shownF c (0, 1, q)).2.1 * k ∧ (shownF c (0, 1, q)).1 + (shownF c (0, 1, q)).2.1 * k < q
  | [], q, k, _, hq, h0, h => by
    show 0 ≤ 0 + 1 * k ∧ 0 + 1 * k < q
    have h : k < q := h
    omega
  | s :: c, q, k, hc, hq, h0, h => by
    rw [shownF_cons] at h ⊢
    unfold applied at h ⊢
    simp only at h ⊢
    rw [shownF_lin c (0 + 1 * (endsOf s q).1) (1 * s.2.2) (manyOf s q)] at h ⊢
    have ih := shown_place c (manyOf s q) k (fun s hs => hc s (List.mem_cons_of_mem _ hs)) (many_nn _ _) h0 h
    have z := slice_place (hc s List.mem_cons_self) hq ih.1 ih.2
    have e : 0 + 1 * (endsOf s q).1 + 1 * s.2.2 * (shownF c (0, 1, manyOf s q)).1 + 1 * s.2.2 * (shownF c (0, 1, manyOf s q)).2.1 * k = (endsOf s q).1 + s.2.2 * ((shownF c (0, 1, manyOf s q)).1 + (shownF c (0, 1, manyOf s q)).2.1 * k) := by
      simp only [Int.zero_add, Int.one_mul, Int.mul_add, Int.mul_assoc, Int.add_assoc]
    show 0 ≤ 0 + 1 * (endsOf s q).1 + 1 * s.2.2 * (shownF c (0, 1, manyOf s q)).1 + 1 * s.2.2 * (shownF c (0, 1, manyOf s q)).2.1 * k ∧ 0 + 1 * (endsOf s q).1 + 1 * s.2.2 * (shownF c (0, 1, manyOf s q)).1 + 1 * s.2.2 * (shownF c (0, 1, manyOf s q)).2.1 * k < q
    rw [e]
    exact z
/-- the place at k, or none -/
def itemF (p : Pg) (k : Int) : Option Int := if k < p.2.2 then some (p.1 + p.2.1 * k) else none
theorem item_app {c d : List Sl} {n k : Int} (hd : ∀ s, s ∈ d → okS s) (hm : 0 ≤ (shown c n).2.2) (h0 : 0 ≤ k) : (shown (c ++ d) n).2.2 = (shown d (shown c n).2.2).2.2 ∧
    itemF (shown (c ++ d) n) k = (match itemF (shown d (shown c n).2.2) k with | none => none | some j => itemF (shown c n) j) ∧ ∀ j, itemF (shown d (shown c n).2.2) k = some j → 0 ≤ j ∧ j < (shown c n).2.2 := by
  rw [shown_app]
  generalize shown c n = w at *
  obtain ⟨f, u, m⟩ := w
  have hm : 0 ≤ m := hm
  rw [shownF_lin d f u m]
  show (shownF d (0, 1, m)).2.2 = (shown d m).2.2 ∧ _
  refine ⟨rfl, ?_⟩
  have pl := shown_place d m k hd hm h0
  show itemF (f + u * (shownF d (0, 1, m)).1, u * (shownF d (0, 1, m)).2.1, (shownF d (0, 1, m)).2.2) k = (match itemF (shownF d (0, 1, m)) k with | none => none | some j => itemF (f, u, m) j) ∧ ∀ j, itemF (shownF d (0, 1, m)) k = some j → 0 ≤ j ∧ j < m
  generalize shownF d (0, 1, m) = y at *
  unfold itemF
  simp only
  by_cases h : k < y.2.2
  · simp only [if_pos h]
    have p := pl h
    refine ⟨?_, fun j e => by cases e; exact p⟩
    rw [if_pos p.2, Int.mul_add, Int.mul_assoc]
    simp only [Int.add_assoc]
  · simp only [if_neg h]
    exact ⟨trivial, fun j e => by cases e⟩
end Sm

namespace Sc
open PySem PySem.Spec PyProof.Rows L2 Sm
local macro_rules | `(tactic| walk_at "wp") => `(tactic| simp only [dRet, dSeq, dIfS, dNext, dDrop, dSet, dAsg, dPar, dPar3, dAug, dVar, dC, dOp, dUn, dTest, dTru, dNot, dAnd, dOr, dAndV, dOrV, dNotV, dIf, dChain, dCall, dCons, dNil, dCB, dTup, dLst, dIsi, dStore, kSub, dYes, dFor, dIt, dItL, dRng1, dRng2, dSl, dNoP, dPart, dMt, dRaise,
  qI, qI0, qAdd, qSub, qMul, qFdiv, qFdivN, qMod, qPow, qLt, qLe, qGt, qGe, qEq, qNe, qIsN, qNotN, qIsB, qNotB, qNeg, qAbs, qMax2, qMin2, qLen, qIx, qTupOf, qLstOf, qSlT, qSlL, qCatT, qRepT, kName, kTup, kCons, kNil, start2, List.map_cons, List.map_nil, List.length_cons, List.length_nil, List.replicate, List.cons_append, List.nil_append, List.append_nil,
  List.getElem?_cons_zero, List.getElem?_cons_succ, List.set_cons_zero, List.set_cons_succ, Option.some.injEq, exists_eq_left', exists_eq_left, Dt.int.injEq, Dt.bl.injEq, Dt.ref.injEq, Dt.tup.injEq, Dt.lst.injEq, Nat.sub_zero, Nat.zero_add, Nat.reduceAdd, Nat.reduceSub, asQ_tup, asQ_lst, asL_lst, asT_tup, asQ_put, asL_put, exists_and_left, List.cons.injEq, and_true, isN_int, isN_non, truD_int, truD_non, at_0, at_1, at_2, ix20, ix21, Cells.put_same, Cells.put_put, Cell.lst.injEq, sEq_ii, sEq_bb, sEq_ss, sEq_nn, sEq_ni, sEq_in, true_and, decide_eq_true_eq, and_assoc])

/-! ### kept places, far lists -/
def dPl (l : List Int) : Dt := .lst (l.map Dt.int)
def sp_require_length : Sp2 := psp (α := Dt × Int) (fun a => [a.1, .int a.2]) (fun a => Nr a.1 ∧ isInt a.1 0 a.2 = true) (fun _ => .non)
def sp_require_number : Sp2 := psp (α := Dt × Int) (fun a => [a.1, .int a.2]) (fun a => Nr a.1 ∧ isInt a.1 0 a.2 = true) (fun _ => .non)
def sp_places_of : Sp2 := psp (α := Pg) (fun a => [dPg a]) (fun a => 0 ≤ a.2.2 ∧ a.2.2 ≤ 1000) (fun a => dPl (plc a))
def sp_kept : Sp2 := psp (α := List Sl × Int) (fun a => [dCh a.1, .int a.2]) (fun a => okC a.1 ∧ 0 ≤ a.2 ∧ a.2 ≤ 1000) (fun a => dPl (plc (shown a.1 a.2)))
def sp_progression : Sp2 := psp (α := List Sl × Int) (fun a => [dCh a.1, .int a.2]) (fun a => okC a.1 ∧ 0 ≤ a.2 ∧ a.2 ≤ 1000000000000000) (fun a => dCl (clean a.1 a.2))
def sp_item : Sp2 := psp (α := List Sl × Int × Int) (fun a => [dCh a.1, .int a.2.1, .int a.2.2]) (fun a => okC a.1 ∧ (0 ≤ a.2.1 ∧ a.2.1 ≤ 1000000000000000) ∧ 0 ≤ a.2.2 ∧ a.2.2 ≤ 1000000000000000) (fun a => dO (itemF (shown a.1 a.2.1) a.2.2))
theorem shown_in {c : List Sl} (hc : okC c) {n : Int} (hn : 0 ≤ n) : 0 ≤ (shown c n).2.2 ∧ (shown c n).2.2 ≤ n := shownF_count c (0, 1, n) hc.2 hn
theorem len_req {n hi : Int} (h0 : 0 ≤ n) (h1 : n ≤ hi) : Nr (.int n) ∧ isInt (.int n) 0 hi = true := ⟨.int _, by simp [isInt, h0, h1]⟩
def T_require_length (a_InvalidLength : Addr) : TS2 :=
  (dIfS (dNot (dTest (dCall sp_is_integer (dCons (dVar 0) (dCons (dC (.int 0)) (dCons (dVar 1) dNil)))))) (dRaise a_InvalidLength) dNext)
theorem pure_require_length (a : Addr) : Pure 2 sp_require_length (T_require_length a) := by
  rintro ds S Q E frg ⟨⟨d, hi⟩, rfl, ⟨hn, hc⟩, q⟩
  unfold T_require_length
  walk_at "wp"
  have hc : isInt d 0 hi = true := hc
  exact ⟨(d, 0, hi), rfl, hn, _, rfl, iteN (by show ¬ (!isInt d 0 hi) = true; rw [hc]; decide) q⟩
def T_require_number (a_InvalidNumber : Addr) : TS2 :=
  (dIfS (dNot (dTest (dCall sp_is_integer (dCons (dVar 0) (dCons (dC (.int 0)) (dCons (dVar 1) dNil)))))) (dRaise a_InvalidNumber) dNext)
theorem pure_require_number (a : Addr) : Pure 2 sp_require_number (T_require_number a) := by
  rintro ds S Q E frg ⟨⟨d, hi⟩, rfl, ⟨hn, hc⟩, q⟩
  unfold T_require_number
  walk_at "wp"
  have hc : isInt d 0 hi = true := hc
  exact ⟨(d, 0, hi), rfl, hn, _, rfl, iteN (by show ¬ (!isInt d 0 hi) = true; rw [hc]; decide) q⟩
def T_places_of : TS2 :=
  (dSeq (dAsg (dVar 0) (kTup 3 (kCons (kName 1) (kCons (kName 2) (kCons (kName 3) kNil)))))
  (dRet (dLc (dRng1 (dVar 3)) (kName 4) dYes (dOp qAdd (dVar 1) (dOp qMul (dVar 2) (dVar 4))))))
theorem pure_places_of : Pure 5 sp_places_of T_places_of := by
  rintro ds S Q E frg ⟨⟨f, s, c⟩, rfl, ⟨h0, h1⟩, q⟩
  have h0 : 0 ≤ c := h0
  have h1 : c ≤ 1000 := h1
  unfold T_places_of
  simp only [dPg_eq]
  walk_at "wp"
  refine lc_map (items := rng 0 c.toNat) (fun d => match d with | .int i => .int (f + s * i) | d => d) (fun R r => ⟨_, rfl, c, rfl, by omega, by omega, r⟩) (by rw [rng_len]; omega) (fun d hd S R r => ?_) ?_
  · unfold rng at hd
    obtain ⟨i, hi, rfl⟩ := List.mem_map.mp hd
    have hi := List.mem_range.mp hi
    walk_at "wp"
    exact ⟨.inr ⟨by omega, by omega⟩, r⟩
  · have e : (rng 0 c.toNat).map (fun d => match d with | .int i => Dt.int (f + s * i) | d => d) = (plc (f, s, c)).map Dt.int := by
      unfold rng plc
      rw [List.map_map, List.map_map]
      refine List.map_congr_left fun i _ => ?_
      show Dt.int (f + s * (0 + (i : Int))) = Dt.int (f + s * (i : Int))
      rw [Int.zero_add]
    rw [e]
    exact q
def T_kept : TS2 :=
  (dSeq (dDrop (dCall sp_require_chain (dCons (dVar 0) dNil)))
  (dSeq (dDrop (dCall sp_require_length (dCons (dVar 1) (dCons (dC (.int 1000)) dNil))))
  (dRet (dCall sp_places_of (dCons (dCall sp_shown_by (dCons (dVar 0) (dCons (dVar 1) dNil))) dNil)))))
theorem pure_kept : Pure 2 sp_kept T_kept := by
  rintro ds S Q E frg ⟨⟨c, n⟩, rfl, ⟨hc, h0, h1⟩, q⟩
  have hc : okC c := hc
  have h0 : 0 ≤ n := h0
  have h1 : n ≤ 1000 := h1
  unfold T_kept
  walk_at "wp"
  have z := shown_in hc h0
  exact ⟨_, rfl, chain_req hc, (.int n, 1000), rfl, len_req h0 h1, (c, n), rfl, ⟨hc.2, h0, by show n ≤ 10 ^ 18; omega⟩, _, rfl, ⟨z.1, by show (shown c n).2.2 ≤ 1000; omega⟩, q⟩
def T_progression : TS2 :=
  (dSeq (dDrop (dCall sp_require_chain (dCons (dVar 0) dNil)))
  (dSeq (dDrop (dCall sp_require_length (dCons (dVar 1) (dCons (dC (.int 1000000000000000)) dNil))))
  (dRet (dCall sp_clean (dCons (dVar 0) (dCons (dVar 1) dNil))))))
theorem pure_progression : Pure 2 sp_progression T_progression := by
  rintro ds S Q E frg ⟨⟨c, n⟩, rfl, ⟨hc, h0, h1⟩, q⟩
  have hc : okC c := hc
  have h0 : 0 ≤ n := h0
  have h1 : n ≤ 1000000000000000 := h1
  unfold T_progression
  walk_at "wp"
  exact ⟨_, rfl, chain_req hc, (.int n, 1000000000000000), rfl, len_req h0 h1, (c, n), rfl, ⟨hc.2, h0, by show n ≤ 10 ^ 18; omega⟩, q⟩
def T_item : TS2 :=
  (dSeq (dDrop (dCall sp_require_chain (dCons (dVar 0) dNil)))
  (dSeq (dDrop (dCall sp_require_length (dCons (dVar 1) (dCons (dC (.int 1000000000000000)) dNil))))
  (dSeq (dDrop (dCall sp_require_number (dCons (dVar 2) (dCons (dC (.int 1000000000000000)) dNil))))
  (dSeq (dAsg (dCall sp_shown_by (dCons (dVar 0) (dCons (dVar 1) dNil))) (kTup 3 (kCons (kName 3) (kCons (kName 4) (kCons (kName 5) kNil)))))
  (dRet (dIf (dTest (dOp qLt (dVar 2) (dVar 5))) (dOp qAdd (dVar 3) (dOp qMul (dVar 4) (dVar 2))) (dC .non)))))))
theorem pure_item : Pure 6 sp_item T_item := by
  rintro ds S Q E frg ⟨⟨c, n, k⟩, rfl, ⟨hc, ⟨h0, h1⟩, h2, h3⟩, q⟩
  have hc : okC c := hc
  have h0 : 0 ≤ n := h0
  have h1 : n ≤ 1000000000000000 := h1
  have h2 : 0 ≤ k := h2
  have h3 : k ≤ 1000000000000000 := h3
  unfold T_item
  walk_at "wp"
  refine ⟨_, rfl, chain_req hc, (.int n, 1000000000000000), rfl, len_req h0 h1, (.int k, 1000000000000000), rfl, len_req h2 h3, (c, n), rfl, ⟨hc.2, h0, by show n ≤ 10 ^ 18; omega⟩, ?_⟩
  have q : Q (dO (if k < (shown c n).2.2 then some ((shown c n).1 + (shown c n).2.1 * k) else none)) S := q
  dsimp only
  rw [dPg_eq]
  walk_at "wp"
  by_cases h : k < (shown c n).2.2
  · rw [if_pos h] at q
    exact iteP h ⟨.inr ⟨by omega, by omega⟩, q⟩
  · rw [if_neg h] at q
    exact iteN h q
end Sc

namespace Sm
/-- one slice, from a count of 1 + |start| + |stop| on: the begin and the count move evenly in steps of |t| -/
theorem slice_lin2 (s : Sl) (hs : okS s) : ∃ x y : Int, ((x = 0 ∨ x = 1) ∧ (y = 0 ∨ y = 1) ∧ (y = 1 → (0 < s.2.2 → x = 0) ∧ (¬ 0 < s.2.2 → x = 1))) ∧ ∀ c j : Int, 1 + absB s.1 + absB s.2.1 ≤ c → 0 ≤ j →
    (endsOf s (c + (s.2.2.natAbs : Int) * j)).1 = (endsOf s c).1 + ((s.2.2.natAbs : Int) * j) * x ∧ manyOf s (c + (s.2.2.natAbs : Int) * j) = manyOf s c + j * y := by
  obtain ⟨a, b, t⟩ := s
  have ht : -3 ≤ t ∧ t ≤ 3 ∧ t ≠ 0 := hs.2.2
  have a1 := absB_nn a
  have b1 := absB_nn b
  by_cases h0 : 0 < t
  · have et : (t.natAbs : Int) = t := by omega
    obtain ⟨x, hx, kx⟩ := begP_lin a
    obtain ⟨y, hy, ky⟩ := endP_lin b
    show ∃ x y : Int, ((x = 0 ∨ x = 1) ∧ (y = 0 ∨ y = 1) ∧ (y = 1 → (0 < t → x = 0) ∧ (¬ 0 < t → x = 1))) ∧ ∀ c j : Int, 1 + absB a + absB b ≤ c → 0 ≤ j → (endsOf (a, b, t) (c + (t.natAbs : Int) * j)).1 = (endsOf (a, b, t) c).1 + ((t.natAbs : Int) * j) * x ∧ manyOf (a, b, t) (c + (t.natAbs : Int) * j) = manyOf (a, b, t) c + j * y
    rw [et]
    have tj : ∀ j : Int, 0 ≤ j → 0 ≤ t * j := fun j hj => Int.mul_nonneg (by omega) hj
    refine ⟨x, if x = 0 ∧ y = 1 then 1 else 0, ⟨hx, by split <;> omega, by split <;> omega⟩, fun c j hc hj => ?_⟩
    have k1 := kx c (t * j) (by omega) (tj j hj)
    have k2 := ky c (t * j) (by omega) (tj j hj)
    rw [ends_pos h0, ends_pos h0, many_pos h0, many_pos h0]
    refine ⟨k1, ?_⟩
    have j0 := tj j hj
    rcases hx with rfl | rfl <;> rcases hy with rfl | rfl
    · rw [k1, k2]; simp
    · rw [k1, k2]
      simp only [Int.mul_zero, Int.mul_one, Int.add_zero, and_self, if_true]
      have d : endP b c + t * j - begP a c + t - 1 = (endP b c - begP a c) + t * j + t - 1 := by omega
      rw [d]
      refine ceil_add h0 ?_ hj
      have z1 : begP a c ≤ absB a := by
        have := kx (absB a) (c - absB a) (Int.le_refl _) (by omega)
        rw [show absB a + (c - absB a) = c by omega] at this
        have w := begP_in (o := a) (c := absB a) a1
        omega
      have z2 : c - absB b ≤ endP b c := by
        have := ky (absB b) (c - absB b) (Int.le_refl _) (by omega)
        rw [show absB b + (c - absB b) = c by omega] at this
        have w := endP_in (o := b) (c := absB b) b1
        omega
      omega
    · have n1 : ¬ ((1 : Int) = 0 ∧ (0 : Int) = 1) := by omega
      rw [if_neg n1, Int.mul_zero, Int.add_zero]
      have z1 : c - absB a ≤ begP a c := by
        have := kx (absB a) (c - absB a) (Int.le_refl _) (by omega)
        rw [show absB a + (c - absB a) = c by omega] at this
        have w := begP_in (o := a) (c := absB a) a1
        omega
      have z2 : endP b c ≤ absB b := by
        have := ky (absB b) (c - absB b) (Int.le_refl _) (by omega)
        rw [show absB b + (c - absB b) = c by omega] at this
        have w := endP_in (o := b) (c := absB b) b1
        omega
      rw [ceil_zero h0 (by omega), ceil_zero h0 (by omega)]
    · rw [k1, k2]
      have n1 : ¬ ((1 : Int) = 0 ∧ (1 : Int) = 1) := by omega
      rw [if_neg n1, Int.mul_zero, Int.add_zero]
      have d : endP b c + t * j * 1 - (begP a c + t * j * 1) + t - 1 = endP b c - begP a c + t - 1 := by omega
      rw [d]
  · have et : (t.natAbs : Int) = -t := by omega
    obtain ⟨x, hx, hx1, kx⟩ := begN_lin a
    obtain ⟨y, hy, hy1, ky⟩ := endN_lin b
    show ∃ x y : Int, ((x = 0 ∨ x = 1) ∧ (y = 0 ∨ y = 1) ∧ (y = 1 → (0 < t → x = 0) ∧ (¬ 0 < t → x = 1))) ∧ ∀ c j : Int, 1 + absB a + absB b ≤ c → 0 ≤ j → (endsOf (a, b, t) (c + (t.natAbs : Int) * j)).1 = (endsOf (a, b, t) c).1 + ((t.natAbs : Int) * j) * x ∧ manyOf (a, b, t) (c + (t.natAbs : Int) * j) = manyOf (a, b, t) c + j * y
    rw [et]
    obtain ⟨u, rfl⟩ : ∃ u, t = -u := ⟨-t, by omega⟩
    have eu : - -u = u := by omega
    rw [eu]
    have hu : 0 < u := by omega
    have tj : ∀ j : Int, 0 ≤ j → 0 ≤ u * j := fun j hj => Int.mul_nonneg (by omega) hj
    refine ⟨x, if x = 1 ∧ y = 0 then 1 else 0, ⟨hx, by split <;> omega, by split <;> omega⟩, fun c j hc hj => ?_⟩
    have k1 := kx c (u * j) (by omega) (tj j hj)
    have k2 := ky c (u * j) (by omega) (tj j hj)
    rw [ends_neg h0, ends_neg h0, many_neg h0, many_neg h0, eu]
    refine ⟨k1, ?_⟩
    have j0 := tj j hj
    have r : ∀ p q : Int, p - q - -u - 1 = p - q + u - 1 := fun p q => by omega
    rw [r, r]
    rcases hx with rfl | rfl <;> rcases hy with rfl | rfl
    · rw [k1, k2]; simp
    · have n1 : ¬ ((0 : Int) = 1 ∧ (1 : Int) = 0) := by omega
      rw [if_neg n1, Int.mul_zero, Int.add_zero]
      have z1 : begN a c ≤ absB a := by
        have := kx (1 + absB a) (c - (1 + absB a)) (Int.le_refl _) (by omega)
        rw [show 1 + absB a + (c - (1 + absB a)) = c by omega] at this
        have w := begN_in (o := a) (c := 1 + absB a) (by omega)
        omega
      have z2 : c - absB b ≤ endN b c := by
        have := ky (1 + absB b) (c - (1 + absB b)) (Int.le_refl _) (by omega)
        rw [show 1 + absB b + (c - (1 + absB b)) = c by omega] at this
        have w := hy1 rfl
        omega
      simp only [Int.mul_zero, Int.mul_one, Int.add_zero] at k1 k2
      rw [k1, k2, ceil_zero hu (by omega), ceil_zero hu (by omega)]
    · rw [k1, k2]
      simp only [Int.mul_zero, Int.mul_one, Int.add_zero, and_self, if_true]
      have d : begN a c + u * j - endN b c + u - 1 = (begN a c - endN b c) + u * j + u - 1 := by omega
      rw [d]
      refine ceil_add hu ?_ hj
      have z1 : c - 1 - absB a ≤ begN a c := by
        have := kx (1 + absB a) (c - (1 + absB a)) (Int.le_refl _) (by omega)
        rw [show 1 + absB a + (c - (1 + absB a)) = c by omega] at this
        have w := hx1 rfl
        omega
      have z2 : endN b c ≤ absB b := by
        have := ky (1 + absB b) (c - (1 + absB b)) (Int.le_refl _) (by omega)
        rw [show 1 + absB b + (c - (1 + absB b)) = c by omega] at this
        have w := endN_in (o := b) (c := 1 + absB b) (by omega)
        omega
      omega
    · rw [k1, k2]
      have n1 : ¬ ((1 : Int) = 1 ∧ (1 : Int) = 0) := by omega
      rw [if_neg n1, Int.mul_zero, Int.add_zero]
      have d : begN a c + u * j * 1 - (endN b c + u * j * 1) + u - 1 = begN a c - endN b c + u - 1 := by omega
      rw [d]

/-- even steps, with their slopes -/
def Lin2 (T w : Int) (F : Int → Pg) : Prop := ∀ n, T ≤ n → ∃ f s q m g : Int, 0 ≤ q ∧ (g = 0 ∨ g = 1) ∧ (m = 0 ∨ m = 1) ∧ ((s = w ∧ (g = 1 → m = 0)) ∨ (s = -w ∧ (g = 1 → m = 1))) ∧ ∀ k : Int, 0 ≤ k → F (n + k * w) = (f + k * (m * w), s, q + k * g)
theorem lin2_step {T w : Int} {F : Int → Pg} (h : Lin2 T w F) (hw : 0 < w) {s : Sl} (hs : okS s) : Lin2 (T + w * (1 + absB s.1 + absB s.2.1)) (w * (s.2.2.natAbs : Int)) (fun n => applied s (F n)) := by
  intro n hn
  have hs3 := hs.2.2
  obtain ⟨τ, eτ⟩ : ∃ τ : Int, τ = (s.2.2.natAbs : Int) := ⟨_, rfl⟩
  have hτ : 0 < τ := by omega
  obtain ⟨L, eL⟩ : ∃ L : Int, L = 1 + absB s.1 + absB s.2.1 := ⟨_, rfl⟩
  have a1 := absB_nn s.1
  have b1 := absB_nn s.2.1
  have hL : 0 ≤ L := by omega
  rw [← eL] at hn
  rw [← eτ]
  obtain ⟨f, σ, q, m, g, hq, hg, hm, hσ, k⟩ := h (n - L * w) (by rw [Int.mul_comm L w]; omega)
  have go : ∀ k : Int, 0 ≤ k → F (n + k * (w * τ)) = (f + (L + k * τ) * (m * w), σ, q + (L + k * τ) * g) := fun i hi => by
    rw [← k (L + i * τ) (by have := Int.mul_nonneg hi (Int.le_of_lt hτ); omega)]
    congr 1
    rw [Int.add_mul, Int.mul_assoc i τ w, Int.mul_comm τ w]
    omega
  have st : 0 < s.2.2 ∧ s.2.2 = τ ∨ ¬ 0 < s.2.2 ∧ s.2.2 = -τ := by omega
  rcases hg with rfl | rfl
  · refine ⟨f + L * (m * w) + σ * (endsOf s q).1, σ * s.2.2, manyOf s q, m, 0, many_nn _ _, .inl rfl, hm, ?_, fun i hi => ?_⟩
    · rcases hσ with ⟨e, _⟩ | ⟨e, _⟩ <;> rcases st with ⟨_, e2⟩ | ⟨_, e2⟩ <;> rw [e, e2]
      · exact .inl ⟨rfl, fun z => absurd z (by decide)⟩
      · exact .inr ⟨Int.mul_neg .., fun z => absurd z (by decide)⟩
      · exact .inr ⟨Int.neg_mul .., fun z => absurd z (by decide)⟩
      · exact .inl ⟨Int.neg_mul_neg .., fun z => absurd z (by decide)⟩
    · show applied s (F (n + i * (w * τ))) = _
      rw [go i hi]
      unfold applied
      simp only [Int.mul_zero, Int.add_zero]
      refine Prod.ext ?_ rfl
      show f + (L + i * τ) * (m * w) + σ * (endsOf s q).1 = f + L * (m * w) + σ * (endsOf s q).1 + i * (m * (w * τ))
      have e : i * τ * (m * w) = i * (m * (w * τ)) := by simp only [Int.mul_comm, Int.mul_left_comm, Int.mul_assoc]
      rw [Int.add_mul, e]
      omega
  · obtain ⟨x, y, ⟨hx, hy, hxy⟩, z⟩ := slice_lin2 s hs
    rw [← eτ, ← eL] at z
    have hLB : L ≤ q + L * 1 := by omega
    have fin : ∀ m' : Int, (∀ i : Int, i * τ * (m * w) + σ * (τ * i * x) = i * (m' * (w * τ))) → ∀ i : Int, 0 ≤ i → applied s (F (n + i * (w * τ))) = (f + L * (m * w) + σ * (endsOf s (q + L * 1)).1 + i * (m' * (w * τ)), σ * s.2.2, manyOf s (q + L * 1) + i * y) := fun m' hm' i hi => by
      rw [go i hi]
      have ec : q + (L + i * τ) * 1 = q + L * 1 + τ * i := by
        rw [Int.mul_one, Int.mul_comm i τ]
        omega
      rw [ec]
      have z2 := z (q + L * 1) i hLB hi
      unfold applied
      refine Prod.ext ?_ (Prod.ext rfl z2.2)
      show f + (L + i * τ) * (m * w) + σ * (endsOf s (q + L * 1 + τ * i)).1 = f + L * (m * w) + σ * (endsOf s (q + L * 1)).1 + i * (m' * (w * τ))
      rw [z2.1, ← hm' i, Int.add_mul, Int.mul_add σ]
      omega
    rcases hσ with ⟨e, hm1⟩ | ⟨e, hm1⟩
    · have m0 := hm1 rfl
      refine ⟨f + L * (m * w) + σ * (endsOf s (q + L * 1)).1, σ * s.2.2, manyOf s (q + L * 1), x, y, many_nn _ _, hy, hx, ?_, fin x fun i => ?_⟩
      · rcases st with ⟨e1, e2⟩ | ⟨e1, e2⟩ <;> rw [e, e2]
        · exact .inl ⟨rfl, fun z => (hxy z).1 e1⟩
        · exact .inr ⟨Int.mul_neg .., fun z => (hxy z).2 e1⟩
      · rw [m0, e]
        simp only [Int.zero_mul, Int.mul_zero, Int.zero_add, Int.mul_comm, Int.mul_left_comm, Int.mul_assoc]
    · have m0 := hm1 rfl
      refine ⟨f + L * (m * w) + σ * (endsOf s (q + L * 1)).1, σ * s.2.2, manyOf s (q + L * 1), 1 - x, y, many_nn _ _, hy, by omega, ?_, fin (1 - x) fun i => ?_⟩
      · rcases st with ⟨e1, e2⟩ | ⟨e1, e2⟩ <;> rw [e, e2]
        · exact .inr ⟨Int.neg_mul .., fun z => by have := (hxy z).1 e1; omega⟩
        · exact .inl ⟨Int.neg_mul_neg .., fun z => by have := (hxy z).2 e1; omega⟩
      · rw [m0, e]
        rcases hx with rfl | rfl
        · simp only [Int.sub_zero, Int.one_mul, Int.mul_zero, Int.add_zero, Int.mul_comm, Int.mul_left_comm, Int.mul_assoc]
        · have e3 : (1 : Int) - 1 = 0 := by decide
          rw [e3, Int.zero_mul, Int.mul_zero, Int.one_mul, Int.mul_one, Int.neg_mul]
          have e4 : i * τ * w = w * (τ * i) := by simp only [Int.mul_comm, Int.mul_left_comm, Int.mul_assoc]
          rw [e4]
          omega
theorem lin2_wts : ∀ (c : List Sl) (p : Int × Int) (F : Int → Pg), (∀ s, s ∈ c → okS s) → 0 < p.2 → Lin2 p.1 p.2 F → Lin2 (wts c p).1 (wts c p).2 (fun n => shownF c (F n))
  | [], p, F, _, _, h => h
  | s :: c, p, F, hc, hp, h => by
    have hs := hc s List.mem_cons_self
    have h3 := hs.2.2
    exact lin2_wts c (p.1 + p.2 * (1 + absB s.1 + absB s.2.1), p.2 * (s.2.2.natAbs : Int)) _ (fun s hs => hc s (List.mem_cons_of_mem _ hs)) (Int.mul_pos hp (by omega)) (lin2_step h hp hs)
theorem lin2_shown {c : List Sl} (hc : okC c) : Lin2 (thr c) (per c) (shown c) := by
  refine lin2_wts c (0, 1) (fun n => (0, 1, n)) hc.2 (by decide) fun n hn => ⟨0, 1, n, 0, 1, hn, .inr rfl, .inl rfl, .inl ⟨rfl, fun _ => rfl⟩, fun k _ => ?_⟩
  show ((0 : Int), (1 : Int), n + k * 1) = (0 + k * (0 * 1), 1, n + k * 1)
  rw [Int.zero_mul, Int.mul_zero]
  rfl
end Sm

namespace Sm
/-- the first length from low on that leaves r -/
def fstL (low w r : Int) : Int := low + (r - low) % w
/-- anchor (0 none, 1 start, 2 end), distance, gain, least -/
def rowF (c : List Sl) (r : Int) : Int × Int × Int × Int :=
  let w := per c
  let n := fstL (thr c) w r
  let p := shown c n
  let p1 := shown c (n + w)
  let p2 := shown c (n + 2 * w)
  let g := p1.2.2 - p.2.2
  if p1.2.2 > 0 then (if p2.2.2 > 0 ∧ p1.1 = p2.1 then (1, p1.1, g, p.2.2) else (2, n + w - p1.1, g, p.2.2)) else (0, 0, g, p.2.2)
/-- what a row tells of the lengths it is for -/
def fitsF (c : List Sl) (n : Int) (row : Int × Int × Int × Int) (k : Int) : Prop :=
  (shown c n).2.2 = row.2.2.2 + row.2.2.1 * k ∧ (row.1 = 0 → (shown c n).2.2 = 0) ∧ (row.1 = 1 → (shown c n).2.2 = 0 ∨ (shown c n).1 = row.2.1) ∧ (row.1 = 2 → (shown c n).2.2 = 0 ∨ (shown c n).1 = n - row.2.1)
theorem row_fits {c : List Sl} (hc : okC c) {r k : Int} (hk : 0 ≤ k) : fitsF c (fstL (thr c) (per c) r + k * per c) (rowF c r) k ∧ ((rowF c r).2.2.1 = 0 ∨ (rowF c r).2.2.1 = 1) ∧ ((rowF c r).1 = 0 ∨ (rowF c r).1 = 1 ∨ (rowF c r).1 = 2) := by
  have hw := per_pos hc
  have hn : thr c ≤ fstL (thr c) (per c) r := by
    unfold fstL
    have := Int.emod_nonneg (r - thr c) (b := per c) (by omega)
    omega
  obtain ⟨f, s, q, m, g, hq, hg, hm, hs, z⟩ := lin2_shown hc _ hn
  have z0 := z 0 (Int.le_refl _)
  have z1 := z 1 (by decide)
  have z2 := z 2 (by decide)
  have zk := z k hk
  simp only [Int.zero_mul, Int.add_zero, Int.one_mul] at z0 z1 z2
  unfold fitsF
  rw [zk]
  unfold rowF
  simp only
  rw [z0, z1, z2]
  simp only
  generalize fstL (thr c) (per c) r = n at *
  generalize per c = w at *
  have e : q + k * g = q + g * k := by rw [Int.mul_comm k g]
  by_cases h1 : q + g > 0
  · rw [if_pos h1]
    by_cases h2 : q + 2 * g > 0 ∧ f + m * w = f + 2 * (m * w)
    · rw [if_pos h2]
      have m0 : m * w = 0 := by omega
      refine ⟨⟨by show q + k * g = q + (q + g - q) * k; rw [e]; congr 2; omega, fun h => absurd (show (1 : Int) = 0 from h) (by decide), fun _ => .inr ?_, fun h => absurd (show (1 : Int) = 2 from h) (by decide)⟩, by show q + g - q = 0 ∨ q + g - q = 1; omega, .inr (.inl rfl)⟩
      show f + k * (m * w) = f + m * w
      rw [m0]
      omega
    · rw [if_neg h2]
      have m1 : m = 1 := by
        rcases hm with e | e
        · rw [e] at h2
          simp only [Int.zero_mul, Int.mul_zero, Int.add_zero, and_true] at h2
          omega
        · exact e
      refine ⟨⟨by show q + k * g = q + (q + g - q) * k; rw [e]; congr 2; omega, fun h => absurd (show (2 : Int) = 0 from h) (by decide), fun h => absurd (show (2 : Int) = 1 from h) (by decide), fun _ => .inr ?_⟩, by show q + g - q = 0 ∨ q + g - q = 1; omega, .inr (.inr rfl)⟩
      show f + k * (m * w) = n + k * w - (n + w - (f + m * w))
      rw [m1, Int.one_mul]
      omega
  · rw [if_neg h1]
    have q0 : q = 0 := by omega
    have g0 : g = 0 := by omega
    refine ⟨⟨by show q + k * g = q + (q + g - q) * k; rw [e]; congr 2; omega, fun _ => ?_, fun h => absurd (show (0 : Int) = 1 from h) (by decide), fun h => absurd (show (0 : Int) = 2 from h) (by decide)⟩, by show q + g - q = 0 ∨ q + g - q = 1; omega, .inl rfl⟩
    show q + k * g = 0
    rw [q0, g0]
    omega
end Sm

namespace Sc
open PySem PySem.Spec PyProof.Rows L2 Sm
/-! ### in, not in: flat data -/
def flD : Dt → Bool
  | .non | .int _ | .str _ => true
  | _ => false
def toV : Dt → V
  | .int i => .int i
  | .str x => .str x
  | _ => .non
theorem flD_v {K : PySem.W.Frag} {I : Hp} {d : Dt} {v : V} (h : flD d = true) (r : Rp K I d v) : v = toV d ∧ flatV v = true := by
  cases d <;> (try (cases (show false = true from h))) <;> (simp only [Rp] at r; subst r; exact ⟨rfl, rfl⟩)
theorem flD_vs {K : PySem.W.Frag} {I : Hp} : ∀ {ds : List Dt} {vs : List V}, ds.all flD = true → Rps K I ds vs → vs = ds.map toV ∧ vs.all flatV = true
  | [], vs, _, r => by cases (show vs = [] from r); exact ⟨rfl, rfl⟩
  | d :: ds, vs, h, r => by
    obtain ⟨v, us, e, h1, h2⟩ := r
    rw [List.all_cons, Bool.and_eq_true] at h
    obtain ⟨a1, a2⟩ := flD_v h.1 h1
    obtain ⟨b1, b2⟩ := flD_vs h.2 h2
    subst e
    refine ⟨by rw [a1, b1]; rfl, by rw [List.all_cons, a2, b2]; rfl⟩
section
variable {X : Cx}
def isIn (d : Dt) (es : List Dt) : Bool := inV (toV d) (es.map toV)
def qIn : QO := fun d e S Q => ∃ es, asQ S e = some es ∧ flD d = true ∧ es.all flD = true ∧ Q (.bl (isIn d es)) S
def qNotIn : QO := fun d e S Q => ∃ es, asQ S e = some es ∧ flD d = true ∧ es.all flD = true ∧ Q (.bl (!isIn d es)) S
theorem o_in : O2 X (compareOp .In) qIn := ⟨fun d e S Q Q' hq ⟨es, h1, h2, h3, q⟩ => ⟨es, h1, h2, h3, hq _ _ q⟩, _, op_in_seq, fun d e v u S H Q w r1 r2 ⟨es, h1, h2, h3, q⟩ => by
  obtain ⟨a, xs, e1, k1, k2⟩ := asQ_ok w r2 h1
  obtain ⟨a1, a2⟩ := flD_v h2 r1
  obtain ⟨b1, b2⟩ := flD_vs h3 k2
  refine ⟨a, xs, e1, k1, a2, b2, ?_⟩
  rw [a1, b1]
  exact q _ H ⟨Same.refl _, w⟩ rfl⟩
theorem o_notin : O2 X (compareOp .NotIn) qNotIn := ⟨fun d e S Q Q' hq ⟨es, h1, h2, h3, q⟩ => ⟨es, h1, h2, h3, hq _ _ q⟩, _, op_notIn_seq, fun d e v u S H Q w r1 r2 ⟨es, h1, h2, h3, q⟩ => by
  obtain ⟨a, xs, e1, k1, k2⟩ := asQ_ok w r2 h1
  obtain ⟨a1, a2⟩ := flD_v h2 r1
  obtain ⟨b1, b2⟩ := flD_vs h3 k2
  refine ⟨a, xs, e1, k1, a2, b2, ?_⟩
  rw [a1, b1]
  exact q _ H ⟨Same.refl _, w⟩ rfl⟩
end
end Sc
namespace Sc
open PySem PySem.Spec PyProof.Rows L2 Sm
/-- a comprehension whose elements change nothing; its list may change later -/
theorem comp_mapN {G : TG2} {Te : TE2} {p : Addr} {ds : Ds} {Q : QE} (g : Dt → Dt) : ∀ (items acc : List Dt) (S : Cells), acc.length + items.length < 100000 →
    (∀ d, d ∈ items → ∀ (S : Cells) (R : QE), R (g d) S → G d ds S fun ds2 S2 => Te x0 ds2 S2 R) → Q (.ref p) (S.put p (.lst (acc ++ items.map g))) → dComp G dYes Te p ds Q items acc (S.put p (.lst acc))
  | [], acc, S, _, h, q => ⟨Cells.put_same, .inr (by simpa using q)⟩
  | d :: r, acc, S, hl, h, q => by
    have hl' : acc.length + (r.length + 1) < 100000 := hl
    refine h d List.mem_cons_self _ (fun y S4 => S4 p = some (.lst acc) ∧ acc.length < 100000 ∧ dComp G dYes Te p ds Q r (acc ++ [y]) (S4.put p (.lst (acc ++ [y])))) ⟨Cells.put_same, by omega, ?_⟩
    rw [Cells.put_put]
    refine comp_mapN g r (acc ++ [g d]) S (by rw [List.length_append, List.length_singleton]; omega) (fun e he => h e (List.mem_cons_of_mem _ he)) ?_
    simpa using q
theorem comp_new {G : TG2} {Te : TE2} {ds : Ds} {S : Cells} {Q : QE} {items : List Dt} (g : Dt → Dt) (hl : items.length < 100000)
    (h : ∀ d, d ∈ items → ∀ (S : Cells) (R : QE), R (g d) S → G d ds S fun ds2 S2 => Te x0 ds2 S2 R) (q : newL (items.map g) S Q) : ∀ p, S p = none → dComp G dYes Te p ds Q items [] (S.put p (.lst [])) := fun p hp => by
  rcases q with q | q
  · refine comp_map g items [] S (by simpa using hl) h fun c => ?_
    rw [del_put hp]
    simpa using q
  · exact comp_mapN g items [] S (by simpa using hl) h (by simpa using q p hp)
end Sc

namespace Sc
open PySem PySem.Spec PyProof.Rows L2 Sm
theorem rng_rps {K : PySem.W.Frag} {I : Hp} {a b : Int} : Rps K I (rng a (b - a).toNat) (rgV a b) := by
  unfold rng rgV
  generalize List.range (b - a).toNat = l
  induction l with
  | nil => exact rfl
  | cons i l ih => exact ⟨_, _, rfl, rfl, ih⟩
section
variable {X : Cx} {W : WX} {a b e : Expr} {Ta Tb Te : TE2} {pos : Pos}
/-- list(range(n)) -/
def dListR1 (Te : TE2) : TE2 := fun x ds S Q => Te x ds S fun d S1 => ∃ n, d = .int n ∧ -1000000 ≤ n ∧ n ≤ 1000000 ∧ newL (rng 0 n.toNat) S1 Q
theorem e_listR1 {p p2 pos2 : Pos} (hm : X.mg "list" = none) (hm2 : X.mg "range" = none) (he : E2 X W e Te) (hc : X.calm = true := by rfl) (hg : Gl X "list" := by rfl) (hg2 : Gl X "range" := by rfl)
    (n1 : starEach [e] X.env = (false, eval e X.env) :: starEach [] X.env := by rfl) (n2 : starEach [Expr.Call (.Name "range" p2) [e] [] pos2] X.env = (false, eval (Expr.Call (.Name "range" p2) [e] [] pos2) X.env) :: starEach [] X.env := by rfl) :
    E2 X W (.Call (.Name "list" p) [.Call (.Name "range" p2) [e] [] pos2] [] pos) (dListR1 Te) := ⟨fun x ds S Q Q' h p =>
    he.mono x ds S _ _ (fun d S1 ⟨n, e, h1, h2, q⟩ => ⟨n, e, h1, h2, newL.mono h q⟩) p, by
  obtain ⟨t, p, r⟩ := he.run
  refine ⟨_, pe_listRg hc hg hm (prg_1 hg2 hm2 p n1) n2, fun x ds S σ H Q h q => r x ds S σ H _ h (he.mono x ds S _ _ (fun d S1 ⟨n, e, h1, h2, q⟩ v H1 s1 r1 => ?_) q)⟩
  subst e
  cases (show v = _ from r1)
  refine ⟨n, rfl, ⟨by decide, by decide, by omega, by omega, by omega⟩, fun l hl => newL.run s1 ?_ q hl⟩
  have z := rng_rps (K := X.K) (I := wo S1 H1) (a := 0) (b := n)
  rw [Int.sub_zero] at z
  exact z⟩
/-- list(range(a, b)) -/
def dListR2 (Ta Tb : TE2) : TE2 := fun x ds S Q => Ta x ds S fun d S1 => Tb x ds S1 fun e S2 => ∃ i j, d = .int i ∧ e = .int j ∧ (-1000000 ≤ i ∧ i ≤ 1000000 ∧ -1000000 ≤ j ∧ j ≤ 1000000) ∧ newL (rng i (j - i).toNat) S2 Q
theorem e_listR2 {p p2 pos2 : Pos} (hm : X.mg "list" = none) (hm2 : X.mg "range" = none) (ha : E2 X W a Ta) (hb : E2 X W b Tb) (hc : X.calm = true := by rfl) (hg : Gl X "list" := by rfl) (hg2 : Gl X "range" := by rfl)
    (n1 : starEach [a, b] X.env = (false, eval a X.env) :: starEach [b] X.env := by rfl) (n3 : starEach [b] X.env = (false, eval b X.env) :: starEach [] X.env := by rfl) (n4 : (backTo pos2 (starEach [b] X.env)).any (·.1) = false := by rfl)
    (n2 : starEach [Expr.Call (.Name "range" p2) [a, b] [] pos2] X.env = (false, eval (Expr.Call (.Name "range" p2) [a, b] [] pos2) X.env) :: starEach [] X.env := by rfl) :
    E2 X W (.Call (.Name "list" p) [.Call (.Name "range" p2) [a, b] [] pos2] [] pos) (dListR2 Ta Tb) := ⟨fun x ds S Q Q' h p =>
    ha.mono x ds S _ _ (fun d S1 q => hb.mono x ds S1 _ _ (fun e S2 ⟨i, j, e1, e2, h1, q⟩ => ⟨i, j, e1, e2, h1, newL.mono h q⟩) q) p, by
  obtain ⟨t, p, r⟩ := ha.run
  obtain ⟨t', p', r'⟩ := hb.run
  refine ⟨_, pe_listRg hc hg hm (prg_2 hg2 hm2 p p' n1 n3 n4) n2, fun x ds S σ H Q h q => ?_⟩
  refine r x ds S σ H _ h (ha.mono x ds S _ _ (fun d S1 q v H1 s1 r1 => ?_) q)
  refine r' x ds S1 σ H1 _ (h.step s1) (hb.mono x ds S1 _ _ (fun e S2 ⟨i, j, e1, e2, h1, q5⟩ u H2 s2 r2 => ?_) q)
  subst e1 e2
  cases (show v = _ from r1)
  cases (show u = _ from r2)
  exact ⟨i, j, rfl, rfl, ⟨by omega, by omega, by omega, by omega, by omega⟩, fun l hl => newL.run (s1.trans s2) rng_rps q5 hl⟩⟩
end
end Sc

namespace Sc
open PySem PySem.Spec PyProof.Rows L2 Sm
/-- a comprehension with a test, whose elements change nothing -/
theorem comp_filA {G : TG2} {Tt : TT2} {Te : TE2} {p : Addr} {ds : Ds} {Q : QE} (f : Dt → Bool) (g : Dt → Dt) : ∀ (items acc : List Dt) (S : Cells), acc.length + items.length < 100000 →
    (∀ d, d ∈ items → ∀ (S : Cells) (R1 : QE) (R2 : Cells → Prop), (f d = true → R1 (g d) S) → (f d = false → R2 S) → G d ds S fun ds2 S2 => Tt x0 ds2 S2 fun k S3 => if k = true then Te x0 ds2 S3 R1 else R2 S3) →
    ((∀ c, Q (.lst (acc ++ (items.filter f).map g)) ((S.put p c).del p)) ∨ Q (.ref p) (S.put p (.lst (acc ++ (items.filter f).map g)))) → dComp G Tt Te p ds Q items acc (S.put p (.lst acc))
  | [], acc, S, _, h, q => ⟨Cells.put_same, by
    rcases q with q | q
    · exact .inl (by simpa using q _)
    · exact .inr (by simpa using q)⟩
  | d :: r, acc, S, hl, h, q => by
    have hl' : acc.length + (r.length + 1) < 100000 := hl
    refine h d List.mem_cons_self _ (fun y S4 => S4 p = some (.lst acc) ∧ acc.length < 100000 ∧ dComp G Tt Te p ds Q r (acc ++ [y]) (S4.put p (.lst (acc ++ [y])))) (fun S3 => dComp G Tt Te p ds Q r acc S3) (fun k => ⟨Cells.put_same, by omega, ?_⟩) (fun k => ?_)
    · rw [Cells.put_put]
      refine comp_filA f g r (acc ++ [g d]) S (by rw [List.length_append, List.length_singleton]; omega) (fun e he => h e (List.mem_cons_of_mem _ he)) ?_
      rw [List.filter_cons_of_pos k] at q
      rcases q with q | q
      · exact .inl (by simpa using q)
      · exact .inr (by simpa using q)
    · refine comp_filA f g r acc S (by omega) (fun e he => h e (List.mem_cons_of_mem _ he)) ?_
      rw [List.filter_cons_of_neg (by rw [k]; decide)] at q
      exact q
theorem comp_fil {G : TG2} {Tt : TT2} {Te : TE2} {ds : Ds} {S : Cells} {Q : QE} {items : List Dt} (f : Dt → Bool) (g : Dt → Dt) (hl : items.length < 100000)
    (h : ∀ d, d ∈ items → ∀ (S : Cells) (R1 : QE) (R2 : Cells → Prop), (f d = true → R1 (g d) S) → (f d = false → R2 S) → G d ds S fun ds2 S2 => Tt x0 ds2 S2 fun k S3 => if k = true then Te x0 ds2 S3 R1 else R2 S3)
    (q : newL ((items.filter f).map g) S Q) : ∀ p, S p = none → dComp G Tt Te p ds Q items [] (S.put p (.lst [])) := fun p hp => by
  refine comp_filA f g items [] S (by simpa using hl) h ?_
  rcases q with q | q
  · refine .inl fun c => ?_
    rw [del_put hp]
    simpa using q
  · exact .inr (by simpa using q p hp)
end Sc

namespace Sm
/-- where an item-by-item cut begins, where it ends -/
def hereP (o : Option Int) (c : Int) : Int := match o with | none => 0 | some b => if b < 0 then b + c else b
def stopP (o : Option Int) (c : Int) : Int := match o with | none => c | some b => if b < 0 then b + c else b
def hereN (o : Option Int) (c : Int) : Int := match o with | none => c - 1 | some b => if b < 0 then b + c else b
def stopN (o : Option Int) (c : Int) : Int := match o with | none => -1 | some b => if b < 0 then max (b + c) (-1) else b
theorem begP_here {o : Option Int} {c : Int} (hc : 0 ≤ c) : begP o c = min c (max (hereP o c) 0) := by
  cases o with
  | none => simp only [begP, hereP]; omega
  | some b => simp only [begP, hereP, moved]; split <;> omega
theorem endP_stop {o : Option Int} {c : Int} (hc : 0 ≤ c) : endP o c = max 0 (min (stopP o c) c) := by
  cases o with
  | none => simp only [endP, stopP]; omega
  | some b => simp only [endP, stopP, moved]; split <;> omega
theorem begN_here {o : Option Int} {c : Int} (hc : 0 ≤ c) : begN o c = max (-1) (min (hereN o c) (c - 1)) := by
  cases o with
  | none => simp only [begN, hereN]; omega
  | some b => simp only [begN, hereN, moved]; split <;> omega
theorem endN_stop {o : Option Int} {c : Int} (hc : 0 ≤ c) : endN o c = min (stopN o c) (c - 1) ∧ -1 ≤ stopN o c := by
  cases o with
  | none => simp only [endN, stopN]; omega
  | some b => simp only [endN, stopN, moved]; split <;> omega
/-- the rounds of the cut, step > 0 -/
theorem cut_pos {a b : Option Int} {t c i : Int} (ht : 0 < t) (hc : 0 ≤ c) (hi : 0 ≤ i) : (max (hereP a c) 0 + t * i < min (stopP b c) c ↔ i < manyOf (a, b, t) c) ∧ (i < manyOf (a, b, t) c → max (hereP a c) 0 = (endsOf (a, b, t) c).1) := by
  rw [many_pos ht, ends_pos ht]
  show _ ∧ (_ → _ = begP a c)
  rw [begP_here hc, endP_stop hc]
  obtain ⟨B, hB⟩ : ∃ B, B = max (hereP a c) 0 := ⟨_, rfl⟩
  obtain ⟨M, hM⟩ : ∃ M, M = min (stopP b c) c := ⟨_, rfl⟩
  rw [← hB, ← hM]
  have hB0 : 0 ≤ B := by omega
  have hMc : M ≤ c := by omega
  have ti : 0 ≤ t * i := Int.mul_nonneg (by omega) hi
  by_cases h : B ≤ c
  · have e : min c B = B := by omega
    rw [e]
    have k : i < max 0 ((max 0 M - B + t - 1) / t) ↔ i + 1 ≤ (max 0 M - B + t - 1) / t := by omega
    rw [k, Int.le_ediv_iff_mul_le ht, Int.add_mul, Int.mul_comm i t]
    exact ⟨by omega, fun _ => rfl⟩
  · have e : min c B = c := by omega
    rw [e]
    have z := ceil_zero (D := max 0 M - c) ht (by omega)
    rw [z]
    exact ⟨by omega, fun h => by omega⟩
/-- the rounds of the cut, step < 0 -/
theorem cut_neg {a b : Option Int} {t c i : Int} (ht : t < 0) (hc : 0 ≤ c) (hi : 0 ≤ i) : (min (hereN a c) (c - 1) + t * i > stopN b c ↔ i < manyOf (a, b, t) c) ∧ (i < manyOf (a, b, t) c → min (hereN a c) (c - 1) = (endsOf (a, b, t) c).1) := by
  have h0 : ¬ 0 < t := by omega
  rw [many_neg h0, ends_neg h0]
  show _ ∧ (_ → _ = begN a c)
  obtain ⟨e1, e2⟩ := endN_stop (o := b) hc
  rw [begN_here hc, e1]
  obtain ⟨B, hB⟩ : ∃ B, B = min (hereN a c) (c - 1) := ⟨_, rfl⟩
  obtain ⟨M, hM⟩ : ∃ M, M = stopN b c := ⟨_, rfl⟩
  rw [← hB, ← hM]
  rw [← hM] at e2
  have hBc : B ≤ c - 1 := by omega
  obtain ⟨u, rfl⟩ : ∃ u, t = -u := ⟨-t, by omega⟩
  have hu : 0 < u := by omega
  have eu : - -u = u := by omega
  have ui : 0 ≤ u * i := Int.mul_nonneg (by omega) hi
  rw [eu, Int.neg_mul]
  by_cases h : -1 ≤ B
  · have e : max (-1) B = B := by omega
    rw [e]
    have k : i < max 0 ((B - min M (c - 1) - -u - 1) / u) ↔ i + 1 ≤ (B - min M (c - 1) - -u - 1) / u := by omega
    rw [k, Int.le_ediv_iff_mul_le hu, Int.add_mul, Int.mul_comm i u]
    exact ⟨by omega, fun _ => rfl⟩
  · have e : max (-1) B = -1 := by omega
    rw [e]
    have d : -1 - min M (c - 1) - -u - 1 = (-1 - min M (c - 1)) + u - 1 := by omega
    rw [d]
    have z := ceil_zero (D := -1 - min M (c - 1)) hu (by omega)
    rw [z]
    exact ⟨by omega, fun h => by omega⟩
/-- the places of a slice of a progression: those of the places -/
theorem plc_applied {s : Sl} {p : Pg} {i : Nat} (hs : okS s) (hp : 0 ≤ p.2.2) (hi : (i : Int) < manyOf s p.2.2) :
    (plc p)[((endsOf s p.2.2).1 + s.2.2 * (i : Int)).toNat]? = some ((applied s p).1 + (applied s p).2.1 * (i : Int)) := by
  have z := slice_place hs hp (k := (i : Int)) (by omega) hi
  rw [plc_get (by omega), Int.toNat_of_nonneg z.1]
  show some (p.1 + p.2.1 * ((endsOf s p.2.2).1 + s.2.2 * (i : Int))) = some (p.1 + p.2.1 * (endsOf s p.2.2).1 + p.2.1 * s.2.2 * (i : Int))
  rw [Int.mul_add, Int.mul_assoc]
  simp only [Int.add_assoc]
theorem plc_snoc {p : Pg} {i : Nat} : plc (p.1, p.2.1, ((i + 1 : Nat) : Int)) = plc (p.1, p.2.1, (i : Int)) ++ [p.1 + p.2.1 * (i : Int)] := by
  unfold plc
  simp only [Int.toNat_natCast]
  rw [List.range_succ, List.map_append]
  rfl
theorem plc_start (n : Nat) : plc (0, 1, (n : Int)) = (List.range n).map fun (i : Nat) => (i : Int) := by
  unfold plc
  simp only [Int.toNat_natCast, Int.zero_add, Int.one_mul]
end Sm

namespace Sc
open PySem PySem.Spec PyProof.Rows L2 Sm
local macro_rules | `(tactic| walk_at "wp") => `(tactic| simp only [dRet, dSeq, dIfS, dNext, dDrop, dSet, dAsg, dPar, dPar3, dAug, dVar, dC, dOp, dUn, dTest, dTru, dNot, dAnd, dOr, dAndV, dOrV, dNotV, dIf, dChain, dCall, dCons, dNil, dCB, dTup, dLst, dIsi, dStore, kSub, dYes, dFor, dIt, dItL, dRng1, dRng2, dSl, dNoP, dPart, dMt, dRaise,
  qI, qI0, qAdd, qSub, qMul, qFdiv, qFdivN, qMod, qPow, qLt, qLe, qGt, qGe, qEq, qNe, qIsN, qNotN, qIsB, qNotB, qNeg, qAbs, qMax2, qMin2, qLen, qIx, qTupOf, qLstOf, qSlT, qSlL, qCatT, qRepT, kName, kTup, kCons, kNil, start2, List.map_cons, List.map_nil, List.length_cons, List.length_nil, List.replicate, List.cons_append, List.nil_append, List.append_nil,
  List.getElem?_cons_zero, List.getElem?_cons_succ, List.set_cons_zero, List.set_cons_succ, Option.some.injEq, exists_eq_left', exists_eq_left, Dt.int.injEq, Dt.bl.injEq, Dt.ref.injEq, Dt.tup.injEq, Dt.lst.injEq, Nat.sub_zero, Nat.zero_add, Nat.reduceAdd, Nat.reduceSub, asQ_tup, asQ_lst, asL_lst, asT_tup, asQ_put, asL_put, exists_and_left, List.cons.injEq, and_true, isN_int, isN_non, truD_int, truD_non, at_0, at_1, at_2, ix20, ix21, Cells.put_same, Cells.put_put, Cell.lst.injEq, sEq_ii, sEq_bb, sEq_ss, sEq_nn, sEq_ni, sEq_in, true_and, decide_eq_true_eq, and_assoc])

/-! ### item by item -/
def sp__law_cut : Sp2 := fun ds S Q _ => ∃ (s : Sl) (p : Pg) (d : Dt), ds = [dS s, d] ∧ asQ S d = some ((plc p).map Dt.int) ∧ okS s ∧ 0 ≤ p.2.2 ∧ p.2.2 ≤ 90000 ∧ Q (dPl (plc (applied s p))) S
theorem cut_mono : sp__law_cut.Mono := ⟨fun ds S Q Q' E E' h _ ⟨s, p, d, e, h1, h2, h3, h4, q⟩ => ⟨s, p, d, e, h1, h2, h3, h4, h _ _ q⟩⟩
theorem cut_lenD : ∀ ds S Q E, sp__law_cut ds S Q E → ds.length = 2 := fun ds S Q E ⟨s, p, d, e, _⟩ => by rw [e]; rfl
theorem asQ_new {S : Cells} {a : Addr} {c : Cell} {d : Dt} {l : List Dt} (ha : S a = none) (h : asQ S d = some l) : asQ (S.put a c) d = some l := by
  cases d with
  | ref b =>
    have h' : (match S b with | some (.lst ds) => some ds | _ => none) = some l := h
    have ne : b ≠ a := fun e => by
      rw [e, ha] at h'
      cases h'
    show (match (S.put a c) b with | some (.lst ds) => some ds | _ => none) = some l
    rw [Cells.put_ne ne]
    exact h'
  | _ => exact h
theorem at_plc {p : Pg} {k : Int} {v : Int} (h0 : 0 ≤ k) (h : (plc p)[k.toNat]? = some v) : atI ((plc p).map Dt.int) k = some (.int v) := by
  have hl : k.toNat < (plc p).length := (List.getElem?_eq_some_iff.mp h).1
  have z := at_get (l := (plc p).map Dt.int) h0 (by rw [List.length_map]; omega)
  obtain ⟨a, e, _, g⟩ := z
  rw [e]
  rw [List.getElem?_map, h] at g
  exact g.symm
def T__law_cut : TS2 :=
  (dSeq (dAsg (dVar 0) (kTup 3 (kCons (kName 2) (kCons (kName 3) (kCons (kName 4) kNil)))))
  (dSeq (dPar 5 6 (dCons (dCB qLen (dCons (dVar 1) dNil)) (dCons (dLst dNil) dNil)))
  (dSeq (dIfS (dTest (dOp qGt (dVar 4) (dC (.int 0)))) (dSeq (dSet 7 (dIf (dTest (dOp qIsN (dVar 2) (dC .non))) (dC (.int 0)) (dIf (dTest (dOp qLt (dVar 2) (dC (.int 0)))) (dOp qAdd (dVar 2) (dVar 5)) (dVar 2))))
  (dSeq (dSet 8 (dIf (dTest (dOp qIsN (dVar 3) (dC .non))) (dVar 5) (dIf (dTest (dOp qLt (dVar 3) (dC (.int 0)))) (dOp qAdd (dVar 3) (dVar 5)) (dVar 3))))
  (dSeq (dSet 7 (dCB qMax2 (dCons (dVar 7) (dCons (dC (.int 0)) dNil))))
  (dSeq (dWhile (dTest (dOp qLt (dVar 7) (dCB qMin2 (dCons (dVar 8) (dCons (dVar 5) dNil))))) (dSeq (dDrop (dMt qAppend (dVar 6) (dCons (dOp qIx (dVar 1) (dVar 7)) dNil)))
  (dSet 7 (dOp qAdd (dVar 7) (dVar 4)))))
  (dRet (dVar 6)))))) dNext)
  (dSeq (dSet 7 (dIf (dTest (dOp qIsN (dVar 2) (dC .non))) (dOp qSub (dVar 5) (dC (.int 1))) (dIf (dTest (dOp qLt (dVar 2) (dC (.int 0)))) (dOp qAdd (dVar 2) (dVar 5)) (dVar 2))))
  (dSeq (dSet 8 (dIf (dTest (dOp qIsN (dVar 3) (dC .non))) (dUn qNeg (dC (.int 1))) (dIf (dTest (dOp qLt (dVar 3) (dC (.int 0)))) (dCB qMax2 (dCons (dOp qAdd (dVar 3) (dVar 5)) (dCons (dUn qNeg (dC (.int 1))) dNil))) (dVar 3))))
  (dSeq (dSet 7 (dCB qMin2 (dCons (dVar 7) (dCons (dOp qSub (dVar 5) (dC (.int 1))) dNil))))
  (dSeq (dWhile (dTest (dOp qGt (dVar 7) (dVar 8))) (dSeq (dDrop (dMt qAppend (dVar 6) (dCons (dOp qIx (dVar 1) (dVar 7)) dNil)))
  (dSet 7 (dOp qAdd (dVar 7) (dVar 4)))))
  (dRet (dVar 6)))))))))
theorem pure__law_cut : Pure 9 sp__law_cut T__law_cut := by
  rintro ds S Q E frg ⟨⟨a, b, t⟩, p, d, rfl, hd, hs, hp0, hp1, q⟩
  have ht : -3 ≤ t ∧ t ≤ 3 ∧ t ≠ 0 := hs.2.2
  unfold T__law_cut
  simp only [dS_eq]
  walk_at "wp"
  refine ⟨_, hd, by decide, .inr fun r hr => ?_⟩
  have hd2 : ∀ c, asQ (S.put r c) d = some ((plc p).map Dt.int) := fun c => asQ_new hr hd
  have ec : (((plc p).map Dt.int).length : Int) = p.2.2 := by
    rw [List.length_map, plc_len]
    omega
  rw [ec]
  obtain ⟨c, hcc⟩ : ∃ c, c = p.2.2 := ⟨_, rfl⟩
  rw [← hcc] at ec ⊢
  have hc0 : 0 ≤ c := by omega
  have mle := many_le hs hc0
  have loopP : 0 < t → ∀ (hh ee : Int) (u0 u2 u3 : Option Dt), hh = max (hereP a c) 0 → ee = stopP b c →
      dWhile (dTest (dOp qLt (dVar 7) (dCB qMin2 (dCons (dVar 8) (dCons (dVar 5) dNil))))) (dSeq (dDrop (dMt qAppend (dVar 6) (dCons (dOp qIx (dVar 1) (dVar 7)) dNil))) (dSet 7 (dOp qAdd (dVar 7) (dVar 4)))) (X0 E)
        { nx := fun ds' S' => ∃ d, ds'[6]? = some (some d) ∧ Q d S', rt := Q } [u0, some d, u2, u3, some (.int t), some (.int c), some (.ref r), some (.int hh), some (.int ee)] (S.put r (.lst [])) := by
    intro h0 hh ee u0 u2 u3 e1 e2
    refine wh_inv (fun (i : Nat) ds S' => (i : Int) ≤ manyOf (a, b, t) c ∧ S' = S.put r (.lst ((plc ((applied (a, b, t) p).1, (applied (a, b, t) p).2.1, (i : Int))).map Dt.int)) ∧ ds = [u0, some d, u2, u3, some (.int t), some (.int c), some (.ref r), some (.int (hh + t * (i : Int))), some (.int ee)]) (fun i => (manyOf (a, b, t) c).toNat - i) ?_ (a := 0) ⟨many_nn _ _, rfl, by simp⟩
    rintro i ds S' N ⟨hi, rfl, rfl⟩ hN
    have cp := cut_pos (a := a) (b := b) (i := (i : Int)) h0 hc0 (by omega)
    rw [← e1, ← e2] at cp
    walk_at "wp"
    simp only [min_if]
    refine ite2 (fun h => ?_) (fun h => ?_)
    · have hm := cp.1.mp (by first | exact h | simpa using h)
      have pa := plc_applied (p := p) (i := i) hs hp0 (by rw [← hcc]; exact hm)
      rw [← hcc] at pa
      have eh := cp.2 hm
      have h00 : 0 ≤ hh + t * (i : Int) := by
        have z := slice_place hs hc0 (k := (i : Int)) (by omega) hm
        rw [eh]
        exact z.1
      refine ⟨⟨_, asL_put⟩, _, hd2 _, _, at_plc h00 (by rw [eh]; exact pa), r, _, _, rfl, rfl, Cells.put_same, by rw [List.length_map, plc_len]; simp only [Int.toNat_natCast]; omega, ?_⟩
      rw [Cells.put_put]
      refine hN (i + 1) _ _ (by omega) ⟨by omega, ?_, ?_⟩
      · rw [plc_snoc (p := applied (a, b, t) p), List.map_append]
        rfl
      · rw [show ((i + 1 : Nat) : Int) = (i : Int) + 1 by omega, Int.mul_add, Int.mul_one, Int.add_assoc]
    · have hm : ¬ (i : Int) < manyOf (a, b, t) c := fun z => by
        have := cp.1.mpr z
        first
          | exact h this
          | simp [this] at h
      have hie : (i : Int) = manyOf (a, b, t) p.2.2 := by rw [← hcc]; omega
      rw [hie]
      exact frg.fz S r _ hr q
  have loopN : t < 0 → ∀ (hh ee : Int) (u0 u2 u3 : Option Dt), hh = min (hereN a c) (c - 1) → ee = stopN b c →
      dWhile (dTest (dOp qGt (dVar 7) (dVar 8))) (dSeq (dDrop (dMt qAppend (dVar 6) (dCons (dOp qIx (dVar 1) (dVar 7)) dNil))) (dSet 7 (dOp qAdd (dVar 7) (dVar 4)))) (X0 E)
        { nx := fun ds' S' => ∃ d, ds'[6]? = some (some d) ∧ Q d S', rt := Q } [u0, some d, u2, u3, some (.int t), some (.int c), some (.ref r), some (.int hh), some (.int ee)] (S.put r (.lst [])) := by
    intro h0 hh ee u0 u2 u3 e1 e2
    refine wh_inv (fun (i : Nat) ds S' => (i : Int) ≤ manyOf (a, b, t) c ∧ S' = S.put r (.lst ((plc ((applied (a, b, t) p).1, (applied (a, b, t) p).2.1, (i : Int))).map Dt.int)) ∧ ds = [u0, some d, u2, u3, some (.int t), some (.int c), some (.ref r), some (.int (hh + t * (i : Int))), some (.int ee)]) (fun i => (manyOf (a, b, t) c).toNat - i) ?_ (a := 0) ⟨many_nn _ _, rfl, by simp⟩
    rintro i ds S' N ⟨hi, rfl, rfl⟩ hN
    have cp := cut_neg (a := a) (b := b) (i := (i : Int)) h0 hc0 (by omega)
    rw [← e1, ← e2] at cp
    walk_at "wp"
    try simp only [min_if]
    refine ite2 (fun h => ?_) (fun h => ?_)
    · have hm := cp.1.mp (by first | exact h | simpa using h)
      have pa := plc_applied (p := p) (i := i) hs hp0 (by rw [← hcc]; exact hm)
      rw [← hcc] at pa
      have eh := cp.2 hm
      have h00 : 0 ≤ hh + t * (i : Int) := by
        have z := slice_place hs hc0 (k := (i : Int)) (by omega) hm
        rw [eh]
        exact z.1
      refine ⟨⟨_, asL_put⟩, _, hd2 _, _, at_plc h00 (by rw [eh]; exact pa), r, _, _, rfl, rfl, Cells.put_same, by rw [List.length_map, plc_len]; simp only [Int.toNat_natCast]; omega, ?_⟩
      rw [Cells.put_put]
      refine hN (i + 1) _ _ (by omega) ⟨by omega, ?_, ?_⟩
      · rw [plc_snoc (p := applied (a, b, t) p), List.map_append]
        rfl
      · rw [show ((i + 1 : Nat) : Int) = (i : Int) + 1 by omega, Int.mul_add, Int.mul_one, Int.add_assoc]
    · have hm : ¬ (i : Int) < manyOf (a, b, t) c := fun z => by
        have := cp.1.mpr z
        first
          | exact h this
          | simp [this] at h
      have hie : (i : Int) = manyOf (a, b, t) p.2.2 := by rw [← hcc]; omega
      rw [hie]
      exact frg.fz S r _ hr q
  dsimp only
  by_cases h0 : 0 < t
  · refine iteP h0 ?_
    have L := loopP h0
    cases a <;> cases b <;> simp only [dO] <;> (try walk_at "wp") <;> simp only [max_if, Bool.false_eq_true, if_true, if_false]
    · exact L _ _ _ _ _ (by simp only [hereP]; try omega) (by simp only [stopP]; try omega)
    · split <;> rename_i h <;> exact L _ _ _ _ _ (by simp only [hereP]; try omega) (by simp only [stopP, h, if_true, if_false]; try omega)
    · split <;> rename_i h <;> exact L _ _ _ _ _ (by simp only [hereP, h, if_true, if_false]; try omega) (by simp only [stopP]; try omega)
    · split <;> rename_i h <;> split <;> rename_i h2 <;> exact L _ _ _ _ _ (by simp only [hereP, h, if_true, if_false]; try omega) (by simp only [stopP, h2, if_true, if_false]; try omega)
  · refine iteN h0 ?_
    have L := loopN (by omega)
    cases a <;> cases b <;> simp only [dO] <;> (try walk_at "wp") <;> simp only [max_if, min_if, Bool.false_eq_true, if_true, if_false]
    · exact L _ _ _ _ _ (by simp only [hereN]; try omega) (by simp only [stopN]; try omega)
    · split <;> rename_i h <;> exact L _ _ _ _ _ (by simp only [hereN]; try omega) (by simp only [stopN, h, if_true, if_false]; try omega)
    · split <;> rename_i h <;> exact L _ _ _ _ _ (by simp only [hereN, h, if_true, if_false]; try omega) (by simp only [stopN]; try omega)
    · split <;> rename_i h <;> split <;> rename_i h2 <;> exact L _ _ _ _ _ (by simp only [hereN, h, if_true, if_false]; try omega) (by simp only [stopN, h2, if_true, if_false]; try omega)
def T__law_kept : TS2 :=
  (dSeq (dSet 2 (dListR1 (dVar 1)))
  (dSeq (dFor (dIt (dVar 0)) (kName 3) (dSet 2 (dCall sp__law_cut (dCons (dVar 3) (dCons (dVar 2) dNil)))))
  (dRet (dVar 2))))
def sp__law_kept : Sp2 := psp (α := List Sl × Int) (fun a => [dCh a.1, .int a.2]) (fun a => (∀ s, s ∈ a.1 → okS s) ∧ 0 ≤ a.2 ∧ a.2 ≤ 90000) (fun a => dPl (plc (shown a.1 a.2)))
theorem pure__law_kept : Pure 4 sp__law_kept T__law_kept := by
  rintro ds S Q E frg ⟨⟨c, n⟩, rfl, ⟨hc, h0, h1⟩, q⟩
  have h0 : 0 ≤ n := h0
  have h1 : n ≤ 90000 := h1
  unfold T__law_kept dListR1
  walk_at "wp"
  have e : Dt.lst (rng 0 n.toNat) = dPl (plc (0, 1, n)) := by
    unfold dPl rng plc
    rw [List.map_map]
    congr 1
    refine List.map_congr_left fun i _ => ?_
    show Dt.int (0 + (i : Int)) = Dt.int (0 + 1 * (i : Int))
    rw [Int.one_mul]
  refine ⟨by omega, by omega, .inl ?_⟩
  rw [e]
  refine ⟨_, rfl, ?_⟩
  refine loop_fold dS (fun (p : Pg) ds S' => S' = S ∧ 0 ≤ p.2.2 ∧ p.2.2 ≤ n ∧ ∃ u, ds = [some (dCh c), some (.int n), some (dPl (plc p)), u]) (fun p s => applied s p) (b := (0, 1, n)) ⟨rfl, h0, Int.le_refl _, _, rfl⟩ ?_ ?_
  · rintro p s ds S' N hs ⟨rfl, k0, k1, u, rfl⟩ hN
    walk_at "wp"
    exact ⟨s, p, _, rfl, rfl, hc s hs, k0, by omega, hN _ _ ⟨rfl, many_nn _ _, by have := many_le (hc s hs) k0; show manyOf s p.2.2 ≤ n; omega, _, rfl⟩⟩
  · rintro ds S' ⟨rfl, k0, k1, u, rfl⟩
    walk_at "wp"
    exact q
end Sc

namespace Sc
open PySem PySem.Spec PyProof.Rows L2 Sm
/-- a promise by a relation -/
def rsp {α β : Type} (enc : α → List Dt) (pre : α → Prop) (post : α → β → Prop) (res : β → Dt) : Sp2 := fun ds S Q _ => ∃ a, ds = enc a ∧ pre a ∧ ∀ r, post a r → Q (res r) S
theorem rsp.mono {α β : Type} {enc : α → List Dt} {pre : α → Prop} {post : α → β → Prop} {res : β → Dt} : (rsp enc pre post res).Mono := ⟨fun ds S Q Q' E E' h _ ⟨a, e, p, q⟩ => ⟨a, e, p, fun r k => h _ _ (q r k)⟩⟩
theorem rsp.len {α β : Type} {enc : α → List Dt} {pre : α → Prop} {post : α → β → Prop} {res : β → Dt} {n : Nat} (h : ∀ a, (enc a).length = n) : ∀ ds S Q E, rsp enc pre post res ds S Q E → ds.length = n := fun ds S Q E ⟨a, e, _, _⟩ => by rw [e]; exact h a
/-- a promise of a new list -/
def lsp {α : Type} (enc : α → List Dt) (pre : α → Prop) (res : α → List Dt) : Sp2 := fun ds S Q _ => ∃ a, ds = enc a ∧ pre a ∧ newL (res a) S Q
theorem lsp.mono {α : Type} {enc : α → List Dt} {pre : α → Prop} {res : α → List Dt} : (lsp enc pre res).Mono := ⟨fun ds S Q Q' E E' h _ ⟨a, e, p, q⟩ => ⟨a, e, p, newL.mono h q⟩⟩
theorem lsp.len {α : Type} {enc : α → List Dt} {pre : α → Prop} {res : α → List Dt} {n : Nat} (h : ∀ a, (enc a).length = n) : ∀ ds S Q E, lsp enc pre res ds S Q E → ds.length = n := fun ds S Q E ⟨a, e, _, _⟩ => by rw [e]; exact h a
/-- the numbers below n at which f holds -/
def filI (f : Int → Bool) (n : Nat) : List Int := ((List.range n).map fun (i : Nat) => (i : Int)).filter f
def dInts (l : List Int) : List Dt := l.map Dt.int
theorem filI_mem {f : Int → Bool} {n : Nat} {k : Int} : k ∈ filI f n ↔ 0 ≤ k ∧ k < n ∧ f k = true := by
  unfold filI
  rw [List.mem_filter, List.mem_map]
  constructor
  · rintro ⟨⟨i, hi, rfl⟩, h⟩
    have := List.mem_range.mp hi
    exact ⟨by omega, by omega, h⟩
  · rintro ⟨h0, h1, h2⟩
    exact ⟨⟨k.toNat, List.mem_range.mpr (by omega), by omega⟩, h2⟩
theorem filI_len {f : Int → Bool} {n : Nat} : (filI f n).length ≤ n := by
  unfold filI
  refine Nat.le_trans (List.length_filter_le _ _) ?_
  simp
theorem filI_nil {f : Int → Bool} {n : Nat} : filI f n = [] ↔ ∀ k : Int, 0 ≤ k → k < n → f k = false := by
  rw [List.eq_nil_iff_forall_not_mem]
  constructor
  · intro h k h0 h1
    cases e : f k with
    | false => rfl
    | true => exact absurd (filI_mem.mpr ⟨h0, h1, e⟩) (h k)
  · intro h k hk
    obtain ⟨h0, h1, h2⟩ := filI_mem.mp hk
    rw [h k h0 h1] at h2
    cases h2
theorem filI_congr {f g : Int → Bool} {n : Nat} (h : ∀ k : Int, 0 ≤ k → k < n → f k = g k) : filI f n = filI g n := by
  unfold filI
  refine List.filter_congr fun k hk => ?_
  obtain ⟨i, hi, rfl⟩ := List.mem_map.mp hk
  have := List.mem_range.mp hi
  exact h _ (by omega) (by omega)
theorem filI_succ {f : Int → Bool} {n : Nat} : filI f (n + 1) = filI f n ++ if f (n : Int) = true then [(n : Int)] else [] := by
  unfold filI
  rw [List.range_succ, List.map_append, List.filter_append, List.map_singleton, List.filter_cons, List.filter_nil]
/-- the first of them -/
theorem filI_head {f : Int → Bool} : ∀ {n : Nat} {k : Int} {l : List Int}, filI f n = k :: l → 0 ≤ k ∧ k < n ∧ f k = true ∧ ∀ j : Int, 0 ≤ j → j < k → f j = false
  | 0, k, l, h => by cases h
  | n + 1, k, l, h => by
    rw [filI_succ] at h
    cases e : filI f n with
    | nil =>
      rw [e, List.nil_append] at h
      by_cases hf : f (n : Int) = true
      · rw [if_pos hf] at h
        obtain ⟨rfl, _⟩ := List.cons.inj h
        exact ⟨by omega, by omega, hf, fun j h0 h1 => filI_nil.mp e j h0 h1⟩
      · rw [if_neg hf] at h
        cases h
    | cons a r =>
      rw [e, List.cons_append] at h
      obtain ⟨rfl, _⟩ := List.cons.inj h
      obtain ⟨h0, h1, h2, h3⟩ := filI_head e
      exact ⟨h0, by omega, h2, h3⟩
/-- a comprehension over range(n) with a test -/
theorem comp_filI {G : TG2} {Tt : TT2} {Te : TE2} {ds : Ds} {S : Cells} {Q : QE} {n : Nat} (f : Int → Bool) (g : Int → Dt) (hl : n < 100000)
    (h : ∀ k : Nat, k < n → ∀ (S : Cells) (R1 : QE) (R2 : Cells → Prop), (f (k : Int) = true → R1 (g (k : Int)) S) → (f (k : Int) = false → R2 S) → G (.int (0 + (k : Int))) ds S fun ds2 S2 => Tt x0 ds2 S2 fun b S3 => if b = true then Te x0 ds2 S3 R1 else R2 S3)
    (q : newL ((filI f n).map g) S Q) : ∀ p, S p = none → dComp G Tt Te p ds Q (rng 0 n) [] (S.put p (.lst [])) := by
  refine comp_fil (fun d => match d with | .int i => f i | _ => false) (fun d => match d with | .int i => g i | d => d) (by rw [rng_len]; exact hl) (fun d hd S R1 R2 y n => ?_) ?_
  · unfold rng at hd
    obtain ⟨i, hi, rfl⟩ := List.mem_map.mp hd
    refine h i (List.mem_range.mp hi) S R1 R2 (fun k => ?_) (fun k => ?_)
    · have e : (0 : Int) + (i : Int) = (i : Int) := Int.zero_add _
      have y' := y
      dsimp only at y'
      rw [e] at y'
      exact y' k
    · have e : (0 : Int) + (i : Int) = (i : Int) := Int.zero_add _
      have n' := n
      dsimp only at n'
      rw [e] at n'
      exact n' k
  · have e : List.map (fun d => match d with | .int i => g i | d => d) (List.filter (fun d => match d with | .int i => f i | _ => false) (rng 0 n)) = (filI f n).map g := by
      unfold rng filI
      rw [List.filter_map, List.filter_map, List.map_map, List.map_map]
      have e2 : ((fun d : Dt => match d with | .int i => f i | _ => false) ∘ fun (i : Nat) => Dt.int (0 + (i : Int))) = (f ∘ fun (i : Nat) => (i : Int)) := by
        funext i
        show f (0 + (i : Int)) = f (i : Int)
        rw [Int.zero_add]
      rw [e2]
      refine List.map_congr_left fun i _ => ?_
      show g (0 + (i : Int)) = g (i : Int)
      rw [Int.zero_add]
    rw [e]
    exact q
/-- a comprehension over range(n) without a test -/
theorem comp_mapI {G : TG2} {Te : TE2} {ds : Ds} {S : Cells} {Q : QE} {n : Nat} (g : Int → Dt) (hl : n < 100000)
    (h : ∀ k : Nat, k < n → ∀ (S : Cells) (R : QE), R (g (k : Int)) S → G (.int (0 + (k : Int))) ds S fun ds2 S2 => Te x0 ds2 S2 R)
    (q : newL ((List.range n).map fun (i : Nat) => g (i : Int)) S Q) : ∀ p, S p = none → dComp G dYes Te p ds Q (rng 0 n) [] (S.put p (.lst [])) := by
  refine comp_new (fun d => match d with | .int i => g i | d => d) (by rw [rng_len]; exact hl) (fun d hd S R r => ?_) ?_
  · unfold rng at hd
    obtain ⟨i, hi, rfl⟩ := List.mem_map.mp hd
    refine h i (List.mem_range.mp hi) S R ?_
    have e : (0 : Int) + (i : Int) = (i : Int) := Int.zero_add _
    dsimp only at r
    rw [e] at r
    exact r
  · have e : (rng 0 n).map (fun d => match d with | .int i => g i | d => d) = (List.range n).map fun (i : Nat) => g (i : Int) := by
      unfold rng
      rw [List.map_map]
      refine List.map_congr_left fun i _ => ?_
      show g (0 + (i : Int)) = g (i : Int)
      rw [Int.zero_add]
    rw [e]
    exact q
/-- the values of g below n -/
def valI (g : Int → Int) (n : Nat) : List Int := (List.range n).map fun (i : Nat) => g (i : Int)
theorem valI_int {g : Int → Int} {n : Nat} : ((List.range n).map fun (i : Nat) => Dt.int (g (i : Int))) = (valI g n).map Dt.int := by
  unfold valI
  rw [List.map_map]
  rfl
theorem valI_len {g : Int → Int} {n : Nat} : (valI g n).length = n := by
  unfold valI
  simp
theorem valI_at {g : Int → Int} {n : Nat} {k : Int} (h0 : 0 ≤ k) (h1 : k < n) : atI ((valI g n).map Dt.int) k = some (.int (g k)) := by
  obtain ⟨a, h, _, e⟩ := at_get (l := (valI g n).map Dt.int) (i := k) h0 (by rw [List.length_map, valI_len]; exact h1)
  rw [h, ← e]
  unfold valI
  rw [List.getElem?_map, List.getElem?_map, List.getElem?_range (by omega)]
  show some (Dt.int (g ((k.toNat : Nat) : Int))) = _
  rw [Int.toNat_of_nonneg h0]
theorem ints_ok (l : List Int) : Ok0 1 (.lst (l.map Dt.int)) := .lst fun d h => by
  obtain ⟨i, _, rfl⟩ := List.mem_map.mp h
  exact .int _ _
theorem map_int_eq : ∀ {l m : List Int}, l.map Dt.int = m.map Dt.int ↔ l = m
  | [], [] => by simp
  | [], _ :: _ => by simp
  | _ :: _, [] => by simp
  | a :: l, b :: m => by simp [map_int_eq]
/-- lists of numbers, the same or not -/
theorem deq_ints {S : Cells} {l m : List Int} : DEq S (.lst (l.map Dt.int)) (.lst (m.map Dt.int)) (decide (l = m)) := DEq.mk (ints_ok l) (ints_ok m) (by
  show l = m ↔ Dt.lst (l.map Dt.int) = Dt.lst (m.map Dt.int)
  rw [Dt.lst.injEq, map_int_eq])
end Sc

namespace Sm
/-- n is the least number from 0 on at which p holds -/
def IsLeast (p : Int → Prop) : Option Int → Prop
  | some n => 0 ≤ n ∧ p n ∧ ∀ k, 0 ≤ k → k < n → ¬ p k
  | none => ∀ k, 0 ≤ k → ¬ p k
theorem IsLeast.uniq {p : Int → Prop} {a b : Option Int} (ha : IsLeast p a) (hb : IsLeast p b) : a = b := by
  cases a with
  | none =>
    cases b with
    | none => rfl
    | some n => exact absurd hb.2.1 (ha n hb.1)
  | some m =>
    cases b with
    | none => exact absurd ha.2.1 (hb m ha.1)
    | some n =>
      have h1 : ¬ m < n := fun h => hb.2.2 m ha.1 h ha.2.1
      have h2 : ¬ n < m := fun h => ha.2.2 n hb.1 h hb.2.1
      have : m = n := by omega
      rw [this]
theorem fstL_ge {T w r : Int} (hw : 0 < w) : T ≤ fstL T w r ∧ fstL T w r < T + w := by
  unfold fstL
  have := Int.emod_nonneg (r - T) (b := w) (by omega)
  have := Int.emod_lt_of_pos (r - T) hw
  omega
theorem class_of {T w n : Int} (hw : 0 < w) (h : T ≤ n) : 0 ≤ n % w ∧ n % w < w ∧ ∃ k, 0 ≤ k ∧ n = fstL T w (n % w) + k * w := by
  refine ⟨Int.emod_nonneg _ (by omega), Int.emod_lt_of_pos _ hw, (n - T) / w, Int.ediv_nonneg (by omega) (by omega), ?_⟩
  unfold fstL
  have e : (n % w - T) % w = (n - T) % w := by
    rw [Int.sub_emod, Int.emod_emod_of_dvd _ (Int.dvd_refl w), ← Int.sub_emod]
  rw [e]
  have := Int.emod_add_mul_ediv (n - T) w
  rw [Int.mul_comm ((n - T) / w) w]
  omega
/-- the least length of a class with at least m places -/
def candF (c : List Sl) (m r : Int) : Option Int :=
  if m ≤ (rowF c r).2.2.2 then some (fstL (thr c) (per c) r)
  else if 0 < (rowF c r).2.2.1 then some (fstL (thr c) (per c) r + (m - (rowF c r).2.2.2) * per c) else none
theorem cand_some {c : List Sl} (hc : okC c) {m r x : Int} (h : candF c m r = some x) : thr c ≤ x ∧ m ≤ (shown c x).2.2 ∧ ∀ k : Int, 0 ≤ k → fstL (thr c) (per c) r + k * per c < x → (shown c (fstL (thr c) (per c) r + k * per c)).2.2 < m := by
  have hw := per_pos hc
  have g := fstL_ge (T := thr c) (r := r) hw
  have z0 := (row_fits hc (r := r) (k := 0) (Int.le_refl _)).1.1
  have hg := (row_fits hc (r := r) (k := 0) (Int.le_refl _)).2.1
  rw [Int.mul_zero, Int.zero_mul, Int.add_zero, Int.add_zero] at z0
  unfold candF at h
  by_cases h1 : m ≤ (rowF c r).2.2.2
  · rw [if_pos h1] at h
    cases h
    refine ⟨g.1, by omega, fun k hk hlt => ?_⟩
    have := Int.mul_nonneg hk (Int.le_of_lt hw)
    omega
  · rw [if_neg h1] at h
    by_cases h2 : 0 < (rowF c r).2.2.1
    · rw [if_pos h2] at h
      cases h
      have g1 : (rowF c r).2.2.1 = 1 := by omega
      have hk0 : 0 ≤ m - (rowF c r).2.2.2 := by omega
      have zm := (row_fits hc (r := r) (k := m - (rowF c r).2.2.2) hk0).1.1
      have nn := Int.mul_nonneg hk0 (Int.le_of_lt hw)
      rw [g1, Int.one_mul] at zm
      refine ⟨by omega, by omega, fun k hk hlt => ?_⟩
      have zk := (row_fits hc (r := r) (k := k) hk).1.1
      rw [g1, Int.one_mul] at zk
      have : k < m - (rowF c r).2.2.2 := Int.lt_of_mul_lt_mul_right (a := per c) (by omega) (by omega)
      omega
    · rw [if_neg h2] at h
      cases h
theorem cand_none {c : List Sl} (hc : okC c) {m r : Int} (h : candF c m r = none) : (rowF c r).2.2.1 = 0 ∧ ∀ k : Int, 0 ≤ k → (shown c (fstL (thr c) (per c) r + k * per c)).2.2 < m := by
  unfold candF at h
  have hg := (row_fits hc (r := r) (k := 0) (Int.le_refl _)).2.1
  by_cases h1 : m ≤ (rowF c r).2.2.2
  · rw [if_pos h1] at h
    cases h
  · rw [if_neg h1] at h
    by_cases h2 : 0 < (rowF c r).2.2.1
    · rw [if_pos h2] at h
      cases h
    · have g0 : (rowF c r).2.2.1 = 0 := by omega
      refine ⟨g0, fun k hk => ?_⟩
      have zk := (row_fits hc (r := r) (k := k) hk).1.1
      rw [g0, Int.zero_mul] at zk
      omega
theorem cand_le {c : List Sl} (hc : okC c) {m r x : Int} (hm : 0 ≤ m ∧ m ≤ 1000000000000) (h : candF c m r = some x) : 0 ≤ x ∧ x ≤ 100000000000000 := by
  have hw := per_pos hc
  have hw2 := per_le hc
  have t0 := thr_nn hc
  have t1 := thr_le hc
  have g := fstL_ge (T := thr c) (r := r) hw
  have cs := cand_some hc h
  have z0 := (row_fits hc (r := r) (k := 0) (Int.le_refl _)).1.1
  rw [Int.mul_zero, Int.zero_mul, Int.add_zero, Int.add_zero] at z0
  have nn : 0 ≤ (shown c (fstL (thr c) (per c) r)).2.2 := (shownF_count c (0, 1, fstL (thr c) (per c) r) hc.2 (by show 0 ≤ fstL (thr c) (per c) r; omega)).1
  refine ⟨by omega, ?_⟩
  unfold candF at h
  split at h
  · cases h
    omega
  · split at h
    · cases h
      have : (m - (rowF c r).2.2.2) * per c ≤ 1000000000000 * 81 := Int.mul_le_mul (by omega) hw2 (by omega) (by decide)
      omega
    · cases h
/-- those of the first i classes -/
def foundF (c : List Sl) (m : Int) (i : Nat) : List Int := (List.range i).filterMap fun (r : Nat) => candF c m (r : Int)
theorem foundF_succ (c : List Sl) (m : Int) (i : Nat) : foundF c m (i + 1) = foundF c m i ++ (candF c m (i : Int)).toList := by
  unfold foundF
  rw [List.range_succ, List.filterMap_append]
  congr 1
theorem foundF_len (c : List Sl) (m : Int) (i : Nat) : (foundF c m i).length ≤ i := by
  unfold foundF
  refine Nat.le_trans (List.length_filterMap_le _ _) ?_
  simp
theorem foundF_mem {c : List Sl} {m : Int} {i : Nat} {x : Int} : x ∈ foundF c m i ↔ ∃ r : Nat, r < i ∧ candF c m (r : Int) = some x := by
  unfold foundF
  rw [List.mem_filterMap]
  constructor
  · rintro ⟨r, h, e⟩
    exact ⟨r, List.mem_range.mp h, e⟩
  · rintro ⟨r, h, e⟩
    exact ⟨r, List.mem_range.mpr h, e⟩
theorem class_found {c : List Sl} (hc : okC c) {m k : Int} (h : thr c ≤ k) (hm : m ≤ (shown c k).2.2) : ∃ x, x ∈ foundF c m (per c).toNat ∧ x ≤ k := by
  have hw := per_pos hc
  obtain ⟨r0, r1, j, hj, e⟩ := class_of hw h
  have er : (((k % per c).toNat : Nat) : Int) = k % per c := by omega
  cases q : candF c m (k % per c) with
  | none =>
    have z := (cand_none hc q).2 j hj
    rw [← e] at z
    omega
  | some x =>
    refine ⟨x, foundF_mem.mpr ⟨(k % per c).toNat, by omega, by rw [er]; exact q⟩, ?_⟩
    have z := (cand_some hc q).2.2 j hj
    rw [← e] at z
    omega
theorem least_low {c : List Sl} {m n : Int} (h0 : 0 ≤ n) (h : m ≤ (shown c n).2.2) (hl : ∀ k, 0 ≤ k → k < n → (shown c k).2.2 < m) : IsLeast (fun n => m ≤ (shown c n).2.2) (some n) :=
  ⟨h0, h, fun k k0 k1 z => by have := hl k k0 k1; omega⟩
theorem least_none {c : List Sl} (hc : okC c) {m : Int} (hl : ∀ k, 0 ≤ k → k < thr c → (shown c k).2.2 < m) (h : foundF c m (per c).toNat = []) : IsLeast (fun n => m ≤ (shown c n).2.2) none := fun k k0 z => by
  have z : m ≤ (shown c k).2.2 := z
  by_cases hk : k < thr c
  · have := hl k k0 hk
    omega
  · obtain ⟨x, hx, _⟩ := class_found hc (by omega) z
    rw [h] at hx
    cases hx
theorem least_min {c : List Sl} (hc : okC c) {m x : Int} (hl : ∀ k, 0 ≤ k → k < thr c → (shown c k).2.2 < m) (h : x ∈ foundF c m (per c).toNat) (hx : ∀ y, y ∈ foundF c m (per c).toNat → x ≤ y) : IsLeast (fun n => m ≤ (shown c n).2.2) (some x) := by
  obtain ⟨r, _, e⟩ := foundF_mem.mp h
  have cs := cand_some hc e
  have := thr_nn hc
  refine ⟨by omega, cs.2.1, fun k k0 k1 z => ?_⟩
  have z : m ≤ (shown c k).2.2 := z
  by_cases hk : k < thr c
  · have := hl k k0 hk
    omega
  · obtain ⟨y, hy, hyk⟩ := class_found hc (by omega) z
    have := hx y hy
    omega
/-- never so many: in each class the count stays as it is -/
theorem never_grows {c : List Sl} (hc : okC c) {m : Int} (h : IsLeast (fun n => m ≤ (shown c n).2.2) none) {n : Int} (hn : thr c ≤ n) : (shown c (n + per c)).2.2 = (shown c n).2.2 := by
  obtain ⟨f, s, q, mm, g, hq, hg, _, _, z⟩ := lin2_shown hc n hn
  have z0 := z 0 (Int.le_refl _)
  have z1 := z 1 (by decide)
  rw [Int.zero_mul, Int.add_zero] at z0
  rw [Int.one_mul] at z1
  rw [z0, z1]
  rcases hg with rfl | rfl
  · show q + 1 * 0 = q + 0 * 0
    omega
  · have h1 := h n (by have := thr_nn hc; omega)
    have h1 : ¬ m ≤ (shown c n).2.2 := h1
    by_cases hm : 0 ≤ m
    · have zm := z m hm
      have hw := per_pos hc
      have := h (n + m * per c) (by have := thr_nn hc; have := Int.mul_nonneg hm (Int.le_of_lt hw); omega)
      have this : ¬ m ≤ (shown c (n + m * per c)).2.2 := this
      rw [zm] at this
      have this : ¬ m ≤ q + m * 1 := this
      omega
    · have : 0 ≤ (shown c n).2.2 := (shownF_count c (0, 1, n) hc.2 (by have := thr_nn hc; show 0 ≤ n; omega)).1
      omega
end Sm

namespace Sc
open PySem PySem.Spec PyProof.Rows L2 Sm
local macro_rules | `(tactic| walk_at "wp") => `(tactic| simp only [dRet, dSeq, dIfS, dNext, dDrop, dSet, dAsg, dPar, dPar3, dAug, dVar, dC, dOp, dUn, dTest, dTru, dNot, dAnd, dOr, dAndV, dOrV, dNotV, dIf, dChain, dCall, dCons, dNil, dCB, dTup, dLst, dIsi, dStore, kSub, dYes, dFor, dIt, dItL, dRng1, dRng2, dSl, dNoP, dPart, dMt, dRaise,
  qI, qI0, qAdd, qSub, qMul, qFdiv, qFdivN, qMod, qPow, qLt, qLe, qGt, qGe, qEq, qNe, qIsN, qNotN, qIsB, qNotB, qNeg, qAbs, qMax2, qMin2, qLen, qIx, qTupOf, qLstOf, qSlT, qSlL, qCatT, qRepT, kName, kTup, kCons, kNil, start2, List.map_cons, List.map_nil, List.length_cons, List.length_nil, List.replicate, List.cons_append, List.nil_append, List.append_nil,
  List.getElem?_cons_zero, List.getElem?_cons_succ, List.set_cons_zero, List.set_cons_succ, Option.some.injEq, exists_eq_left', exists_eq_left, Dt.int.injEq, Dt.bl.injEq, Dt.ref.injEq, Dt.tup.injEq, Dt.lst.injEq, Nat.sub_zero, Nat.zero_add, Nat.reduceAdd, Nat.reduceSub, asQ_tup, asQ_lst, asL_lst, asT_tup, asQ_put, asL_put, exists_and_left, List.cons.injEq, and_true, isN_int, isN_non, truD_int, truD_non, at_0, at_1, at_2, ix20, ix21, Cells.put_same, Cells.put_put, Cell.lst.injEq, sEq_ii, sEq_bb, sEq_ss, sEq_nn, sEq_ni, sEq_in, true_and, decide_eq_true_eq, and_assoc])

/-! ### rows -/
def dAn (a : Int) : Dt := if a = 0 then .non else if a = 1 then .str "start" else .str "end"
def dRow (r : Int × Int × Int × Int) : Dt := .tup [dAn r.1, if r.1 = 0 then .non else .int r.2.1, .int r.2.2.1, .int r.2.2.2]
def sp_first_length : Sp2 := psp (α := Int × Int × Int) (fun a => [.int a.1, .int a.2.1, .int a.2.2]) (fun a => 0 < a.2.1) (fun a => .int (fstL a.1 a.2.1 a.2.2))
def sp_row_of : Sp2 := psp (α := List Sl × Int) (fun a => [dCh a.1, .int a.2]) (fun a => okC a.1) (fun a => dRow (rowF a.1 a.2))
theorem dCl_clean {c : List Sl} {n : Int} : dCl (clean c n) = .tup [dO (clean c n).1, dO (clean c n).2.1, .int (shown c n).2.2] := rfl
theorem fstL_in {c : List Sl} (hc : okC c) (r : Int) : 0 ≤ fstL (thr c) (per c) r ∧ fstL (thr c) (per c) r ≤ 30000 := by
  have h1 := thr_nn hc
  have h2 := thr_le hc
  have h3 := per_pos hc
  have h4 := per_le hc
  unfold fstL
  have := Int.emod_nonneg (r - thr c) (b := per c) (by omega)
  have := Int.emod_lt_of_pos (r - thr c) h3
  omega
def T_first_length : TS2 :=
  (dRet (dOp qAdd (dVar 0) (dOp qMod (dOp qSub (dVar 2) (dVar 0)) (dVar 1))))
theorem pure_first_length : Pure 3 sp_first_length T_first_length := by
  rintro ds S Q E frg ⟨⟨a, b, r⟩, rfl, h, q⟩
  unfold T_first_length
  walk_at "wp"
  exact ⟨h, q⟩
def T_row_of : TS2 :=
  (dSeq (dSet 2 (dCall sp_period_of (dCons (dVar 0) dNil)))
  (dSeq (dSet 3 (dCall sp_first_length (dCons (dCall sp_threshold_of (dCons (dVar 0) dNil)) (dCons (dVar 2) (dCons (dVar 1) dNil)))))
  (dSeq (dSet 4 (dOp qIx (dCall sp_clean (dCons (dVar 0) (dCons (dVar 3) dNil))) (dC (.int 2))))
  (dSeq (dPar 5 6 (dCons (dCall sp_clean (dCons (dVar 0) (dCons (dOp qAdd (dVar 3) (dVar 2)) dNil))) (dCons (dCall sp_clean (dCons (dVar 0) (dCons (dOp qAdd (dVar 3) (dOp qMul (dC (.int 2)) (dVar 2))) dNil))) dNil)))
  (dSeq (dSet 7 (dOp qSub (dOp qIx (dVar 5) (dC (.int 2))) (dVar 4)))
  (dSeq (dIfS (dTest (dOp qIsN (dOp qIx (dVar 5) (dC (.int 0))) (dC .non))) (dRet (dTup (dCons (dC .non) (dCons (dC .non) (dCons (dVar 7) (dCons (dVar 4) dNil)))))) dNext)
  (dSeq (dIfS (dTest (dOp qEq (dOp qIx (dVar 5) (dC (.int 0))) (dOp qIx (dVar 6) (dC (.int 0))))) (dRet (dTup (dCons (dC (.str "start")) (dCons (dOp qIx (dVar 5) (dC (.int 0))) (dCons (dVar 7) (dCons (dVar 4) dNil)))))) dNext)
  (dRet (dTup (dCons (dC (.str "end")) (dCons (dOp qSub (dOp qAdd (dVar 3) (dVar 2)) (dOp qIx (dVar 5) (dC (.int 0)))) (dCons (dVar 7) (dCons (dVar 4) dNil)))))))))))))
theorem pure_row_of : Pure 8 sp_row_of T_row_of := by
  rintro ds S Q E frg ⟨⟨c, r⟩, rfl, hc, q⟩
  have hc : okC c := hc
  have hn := fstL_in hc r
  have hw := per_pos hc
  have hw2 := per_le hc
  unfold T_row_of
  walk_at "wp"
  refine ⟨c, rfl, hc, c, rfl, hc, (thr c, per c, r), rfl, hw, (c, fstL (thr c) (per c) r), rfl, ⟨hc.2, hn.1, by show fstL (thr c) (per c) r ≤ 10 ^ 18; omega⟩, ?_⟩
  dsimp only
  simp only [dCl_clean]
  walk_at "wp"
  refine ⟨(c, fstL (thr c) (per c) r + per c), rfl, ⟨hc.2, by show 0 ≤ fstL (thr c) (per c) r + per c; omega, by show fstL (thr c) (per c) r + per c ≤ 10 ^ 18; omega⟩, .inl (by omega), (c, fstL (thr c) (per c) r + 2 * per c), rfl, ⟨hc.2, by show 0 ≤ fstL (thr c) (per c) r + 2 * per c; omega, by show fstL (thr c) (per c) r + 2 * per c ≤ 10 ^ 18; omega⟩, ?_⟩
  dsimp only
  simp only [dCl_clean]
  walk_at "wp"
  have cl : ∀ x, (clean c x).1 = if (shown c x).2.2 > 0 then some (shown c x).1 else none := fun x => rfl
  simp only [cl]
  have q : Q (dRow (rowF c r)) S := q
  unfold rowF at q
  simp only at q
  by_cases h1 : (shown c (fstL (thr c) (per c) r + per c)).2.2 > 0
  · simp only [if_pos h1] at q ⊢
    refine iteN (show ¬ false = true by decide) ?_
    by_cases h2 : (shown c (fstL (thr c) (per c) r + 2 * per c)).2.2 > 0
    · simp only [if_pos h2, h2, true_and] at q ⊢
      by_cases h3 : (shown c (fstL (thr c) (per c) r + per c)).1 = (shown c (fstL (thr c) (per c) r + 2 * per c)).1
      · simp only [if_pos h3] at q
        exact ⟨_, rfl, iteP (by simpa using h3) ⟨by decide, q⟩⟩
      · simp only [if_neg h3] at q
        exact ⟨_, rfl, iteN (by simpa using h3) ⟨_, rfl, by decide, q⟩⟩
    · simp only [if_neg h2, h2, false_and, if_false] at q ⊢
      exact ⟨false, rfl, iteN (by decide) ⟨_, rfl, by decide, q⟩⟩
  · simp only [if_neg h1] at q ⊢
    exact iteP rfl ⟨by decide, q⟩
/-! ### lengths -/
def sp_lengths_keeping : Sp2 := lsp (α := List Sl × Int × Int) (fun a => [dCh a.1, .int a.2.1, .int a.2.2]) (fun a => okC a.1 ∧ (0 ≤ a.2.1 ∧ a.2.1 ≤ 1000000000000) ∧ 0 ≤ a.2.2 ∧ a.2.2 ≤ 1000) (fun a => (filI (fun n => decide ((shown a.1 n).2.2 = a.2.1)) (a.2.2 + 1).toNat).map Dt.int)
def sp_least_length : Sp2 := rsp (α := List Sl × Int) (β := Option Int) (fun a => [dCh a.1, .int a.2]) (fun a => okC a.1 ∧ 0 ≤ a.2 ∧ a.2 ≤ 1000000000000) (fun a o => IsLeast (fun n => a.2 ≤ (shown a.1 n).2.2) o ∧ ∀ n, o = some n → n ≤ 100000000000000) dO
def T_lengths_keeping : TS2 :=
  (dSeq (dDrop (dCall sp_require_chain (dCons (dVar 0) dNil)))
  (dSeq (dDrop (dCall sp_require_number (dCons (dVar 1) (dCons (dC (.int 1000000000000)) dNil))))
  (dSeq (dDrop (dCall sp_require_length (dCons (dVar 2) (dCons (dC (.int 1000)) dNil))))
  (dRet (dLc (dRng1 (dOp qAdd (dVar 2) (dC (.int 1)))) (kName 3) (dTest (dOp qEq (dOp qIx (dCall sp_clean (dCons (dVar 0) (dCons (dVar 3) dNil))) (dC (.int 2))) (dVar 1))) (dVar 3))))))
theorem pure_lengths_keeping : Pure 4 sp_lengths_keeping T_lengths_keeping := by
  rintro ds S Q E frg ⟨⟨c, m, k⟩, rfl, ⟨hc, ⟨h0, h1⟩, h2, h3⟩, q⟩
  have hc : okC c := hc
  have h0 : 0 ≤ m := h0
  have h1 : m ≤ 1000000000000 := h1
  have h2 : 0 ≤ k := h2
  have h3 : k ≤ 1000 := h3
  unfold T_lengths_keeping
  walk_at "wp"
  refine ⟨_, rfl, chain_req hc, (.int m, 1000000000000), rfl, len_req h0 h1, (.int k, 1000), rfl, len_req h2 h3, ?_⟩
  unfold dLc
  walk_at "wp"
  refine ⟨by omega, by omega, ?_⟩
  refine comp_filI (fun n => decide ((shown c n).2.2 = m)) Dt.int (by omega) (fun i hi S R1 R2 y n => ?_) q
  walk_at "wp"
  refine ⟨(c, 0 + (i : Int)), rfl, ⟨hc.2, by show 0 ≤ 0 + (i : Int); omega, by show 0 + (i : Int) ≤ 10 ^ 18; omega⟩, ?_⟩
  simp only [dCl_clean]
  walk_at "wp"
  rw [Int.zero_add]
  exact ite2 (fun h => y (by simpa using h)) (fun h => n (by simpa using h))
def T_least_length : TS2 :=
  (dSeq (dDrop (dCall sp_require_chain (dCons (dVar 0) dNil)))
  (dSeq (dDrop (dCall sp_require_number (dCons (dVar 1) (dCons (dC (.int 1000000000000)) dNil))))
  (dSeq (dPar 2 3 (dCons (dCall sp_threshold_of (dCons (dVar 0) dNil)) (dCons (dCall sp_period_of (dCons (dVar 0) dNil)) dNil)))
  (dSeq (dFor (dRng1 (dVar 2)) (kName 4) (dIfS (dTest (dOp qGe (dOp qIx (dCall sp_clean (dCons (dVar 0) (dCons (dVar 4) dNil))) (dC (.int 2))) (dVar 1))) (dRet (dVar 4)) dNext))
  (dSeq (dSet 5 (dLst dNil))
  (dSeq (dFor (dRng1 (dVar 3)) (kName 6) (dSeq (dAsg (dCall sp_row_of (dCons (dVar 0) (dCons (dVar 6) dNil))) (kTup 4 (kCons (kName 7) (kCons (kName 8) (kCons (kName 9) (kCons (kName 10) kNil))))))
  (dIfS (dTest (dOp qGe (dVar 10) (dVar 1))) (dDrop (dMt qAppend (dVar 5) (dCons (dCall sp_first_length (dCons (dVar 2) (dCons (dVar 3) (dCons (dVar 6) dNil)))) dNil))) (dIfS (dTest (dOp qGt (dVar 9) (dC (.int 0)))) (dDrop (dMt qAppend (dVar 5) (dCons (dOp qAdd (dCall sp_first_length (dCons (dVar 2) (dCons (dVar 3) (dCons (dVar 6) dNil)))) (dOp qMul (dOp qSub (dVar 1) (dVar 10)) (dVar 3))) dNil))) dNext))))
  (dRet (dIf (dTru (dVar 5)) (dCB qMinL (dCons (dVar 5) dNil)) (dC .non)))))))))
theorem pure_least_length : Pure 11 sp_least_length T_least_length := by
  rintro ds S Q E frg ⟨⟨c, m⟩, rfl, ⟨hc, h0, h1⟩, q⟩
  have hc : okC c := hc
  have h0 : 0 ≤ m := h0
  have h1 : m ≤ 1000000000000 := h1
  have q : ∀ o : Option Int, IsLeast (fun n => m ≤ (shown c n).2.2) o ∧ (∀ n, o = some n → n ≤ 100000000000000) → Q (dO o) S := q
  have t0 := thr_nn hc
  have t1 := thr_le hc
  have w0 := per_pos hc
  have w1 := per_le hc
  unfold T_least_length
  walk_at "wp"
  refine ⟨_, rfl, chain_req hc, (.int m, 1000000000000), rfl, len_req h0 h1, c, rfl, hc, c, rfl, hc, ?_⟩
  walk_at "wp"
  refine ⟨by omega, by omega, ?_⟩
  refine loop_rng (fun i ds S' => S' = S ∧ (∀ k : Int, 0 ≤ k → k < i → (shown c k).2.2 < m) ∧ ∃ x4 x5 x6 x7 x8 x9 x10, ds = [some (dCh c), some (.int m), some (.int (thr c)), some (.int (per c)), x4, x5, x6, x7, x8, x9, x10]) ⟨rfl, fun k a b => by omega, _, _, _, _, _, _, _, rfl⟩ ?_ ?_
  · rintro i ds S' N hi ⟨rfl, hl, _, _, _, _, _, _, _, rfl⟩ hN
    walk_at "wp"
    refine ⟨(c, 0 + (i : Int)), rfl, ⟨hc.2, by show 0 ≤ 0 + (i : Int); omega, by show 0 + (i : Int) ≤ 10 ^ 18; omega⟩, ?_⟩
    dsimp only
    simp only [dCl_clean]
    walk_at "wp"
    rw [Int.zero_add]
    refine ite2 (fun h => ?_) (fun h => ?_)
    · exact q (some (i : Int)) ⟨least_low (by omega) h hl, fun n e => by cases e; omega⟩
    · refine hN _ _ ⟨rfl, fun k a b => ?_, _, _, _, _, _, _, _, rfl⟩
      by_cases e : k = (i : Int)
      · rw [e]; omega
      · exact hl k a (by omega)
  · rintro ds S' ⟨rfl, hl, _, _, _, _, _, _, _, rfl⟩
    have hl : ∀ k : Int, 0 ≤ k → k < thr c → (shown c k).2.2 < m := fun k a b => hl k a (by omega)
    walk_at "wp"
    refine ⟨by decide, .inr fun p hp => ⟨by omega, by omega, ?_⟩⟩
    refine loop_rng (fun i ds S2 => S2 = S'.put p (.lst ((foundF c m i).map Dt.int)) ∧ ∃ x4 x6 x7 x8 x9 x10, ds = [some (dCh c), some (.int m), some (.int (thr c)), some (.int (per c)), x4, some (.ref p), x6, x7, x8, x9, x10]) ⟨rfl, _, _, _, _, _, _, rfl⟩ ?_ ?_
    · rintro i ds S2 N hi ⟨rfl, _, _, _, _, _, _, rfl⟩ hN
      have hlen := foundF_len c m i
      walk_at "wp"
      rw [Int.zero_add]
      refine ⟨(c, (i : Int)), rfl, hc, ?_⟩
      unfold dRow
      walk_at "wp"
      have e1 : foundF c m (i + 1) = foundF c m i ++ (candF c m (i : Int)).toList := foundF_succ c m i
      unfold candF at e1
      refine ite2 (fun h => ?_) (fun h => ?_)
      · rw [if_pos h] at e1
        refine ⟨⟨_, asL_put⟩, (thr c, per c, (i : Int)), rfl, w0, p, _, _, rfl, rfl, Cells.put_same, by rw [List.length_map]; omega, ?_⟩
        rw [Cells.put_put]
        refine hN _ _ ⟨?_, _, _, _, _, _, _, rfl⟩
        rw [e1, List.map_append]
        rfl
      · rw [if_neg h] at e1
        refine ite2 (fun h2 => ?_) (fun h2 => ?_)
        · rw [if_pos h2] at e1
          refine ⟨⟨_, asL_put⟩, (thr c, per c, (i : Int)), rfl, w0, .inr (by omega), _, rfl, p, _, _, rfl, rfl, Cells.put_same, by rw [List.length_map]; omega, ?_⟩
          rw [Cells.put_put]
          refine hN _ _ ⟨?_, _, _, _, _, _, _, rfl⟩
          rw [e1, List.map_append]
          rfl
        · rw [if_neg h2] at e1
          refine hN _ _ ⟨?_, _, _, _, _, _, _, rfl⟩
          rw [e1]
          simp
    · rintro ds S2 ⟨rfl, _, _, _, _, _, _, rfl⟩
      walk_at "wp"
      refine ⟨_, by show ((asQ (S'.put p _) (.ref p)).map fun ds => !ds.isEmpty) = some _; rw [asQ_put]; rfl, ?_⟩
      cases e : foundF c m (per c).toNat with
      | nil =>
        refine iteN (by simp) (frg.fg _ _ _ _ hp (q none ⟨least_none hc hl e, fun n h => by cases h⟩))
      | cons x l =>
        refine iteP (by simp) ⟨_, x :: l, rfl, asL_put, by simp, fun y h1 h2 => frg.fg _ _ _ _ hp (q (some y) ?_)⟩
        rw [← e] at h1 h2
        obtain ⟨r, _, er⟩ := foundF_mem.mp h1
        exact ⟨least_min hc hl h1 h2, fun n h => by cases h; exact (cand_le hc ⟨h0, by assumption⟩ er).2⟩
end Sc

/-! enumerate over a tuple; the reversed copy of a tuple -/
namespace Sc
open PySem PySem.Spec PyProof.Rows L2 Sm
theorem meets_enumT {v : Value} {o : Obj} {H : Heap → Prop} (B : Begins v o H) :
    Meets (Builtin.«enumerate.__new__» ⟨[.type "enumerate", v], []⟩) (fun _ R s => H s.heap ∧
      R (.ok (.ret (.ref (s.heap.push o).objs.size))) { s with heap := (s.heap.push o).push { cls := .type "enumerate", data := .fields #[.none, .bool false, .ref s.heap.objs.size, rawInt 0, .none, .none] } }) :=
  .of_wp fun prog w A R s hs => by
    obtain ⟨hp, gg, dd, tk, os⟩ := s
    obtain ⟨hH, hR⟩ := hs
    have sub := sub_enumerate
    have it1 : ∀ {A' : Around} {E Q : Value → Shared → Prop}, Q (.ref hp.objs.size) ⟨hp.push o, gg, dd, tk, os⟩ → wpAny (model prog w) A' (pyIter v) Q E ⟨hp, gg, dd, tk, os⟩ :=
      fun q => B.iter prog w _ _ ⟨hp, gg, dd, tk, os⟩ _ hH q
    wp_walk
    refine wpAny_stack_any fun st => wpAny_pure ?_
    split
    · rename_i cc _ _ _ _ _
      cases (cc == Value.type "enumerate") <;> (wp_walk using it1; exact ⟨_, rfl, hR⟩)
    · wp_walk using it1
      exact ⟨_, rfl, hR⟩
theorem call_enumT {prog : Program} {w : World} {A : Around} {E : Value → Shared → Prop} {s : Shared} {t : Addr} {items : Array Value} {Q : Value → Shared → Prop} (hL : s.heap.IsTuple t items)
    (q : ∀ h', IsEnum h' (s.heap.objs.size + 1) s.heap.objs.size 0 .none → h'.IsTupleIter s.heap.objs.size t 0 → (∀ b ob, s.heap.get? b = some ob → h'.get? b = some ob) → Q (.ref (s.heap.objs.size + 1)) { s with heap := h' }) :
    wpAny (model prog w) A (call (.type "enumerate") [.ref t]) Q E s := by
  refine callType_new F.called_enumerate (by decide) (F.typeCall_enumerate_1 _) (F.newCall_enumerate_1 _) (fun obj => F.args_object_init_2 obj _) F.entry_enumerate_new (meets_enumT (begins_tuple t items)) ⟨hL, ?_⟩
  have sz : (s.heap.push { cls := .type "tuple_iterator", data := .fields #[.ref t, .int 0 0] }).objs.size = s.heap.objs.size + 1 := Heap.size_push ..
  have en := Heap.get?_push_size (s.heap.push { cls := .type "tuple_iterator", data := .fields #[.ref t, .int 0 0] }) (o := { cls := .type "enumerate", data := .fields #[.none, .bool false, .ref s.heap.objs.size, rawInt 0, .none, .none] }) rfl
  show _ ∧ _
  rw [sz] at en ⊢
  exact ⟨⟨_, en, rfl⟩, q _ en ⟨_, Heap.get?_push_of_some _ (Heap.get?_push_size _ rfl), rfl, rfl⟩ fun b ob e => Heap.get?_push_of_some _ (Heap.get?_push_of_some _ e)⟩
/-- the tuple at a, each item in a new pair -/
def IteT (K : PySem.W.Frag) (a : Addr) : It where
  go := fun i H => ∃ (xs : List V) (x : V), SqT K H a xs ∧ xs[i]? = some x
  yld := fun i H v H' => ∃ T x, v = .ref T ∧ H T = none ∧ H' = upd H T (.tup [.int (i : Nat), x]) ∧ ∀ xs, SqT K H a xs → xs[i]? = some x
  stop := fun i H => ∃ xs : List V, SqT K H a xs ∧ xs.length ≤ i
theorem tuple_apart {h : Heap} {a it : Addr} {items : Array Value} {i : Nat} (p : h.IsTuple a items) (hit : h.IsTupleIter it a i) : a ≠ it := fun e => by
  subst e
  obtain ⟨o, h1, h2, _⟩ := p
  obtain ⟨o2, k1, k2, _⟩ := hit
  rw [h1] at k1
  cases k1
  rw [h2] at k2
  exact absurd k2 (by decide)
theorem turn_enumT {P : Program} {w : World} {K : PySem.W.Frag} {elts : List Expr} {kk : Nat} {tpos : Pos} (a e it : Addr) :
    Turn P w K (.Tuple elts kk tpos) (IteT K a) [e, it] e (fun i h => (∃ old, IsEnum h e it ((i : Nat) : Int) old) ∧ h.IsTupleIter it a i ∧ e ≠ it) where
  mem := by simp
  obj := by
    rintro i h ⟨⟨old, he⟩, ⟨o, ho, hc, hd⟩, _⟩ b hb
    have two : b = e ∨ b = it := by simpa using hb
    rcases two with rfl | rfl
    · exact ⟨_, he, fun v q => nomatch q⟩
    · exact ⟨o, ho, fun v q => by rw [hd] at q; cases q⟩
  keep := by
    rintro i h h' ⟨⟨old, he⟩, ⟨o, ho, hr⟩, hne⟩ k
    exact ⟨⟨old, k e (by simp) _ he⟩, ⟨o, k it (by simp) _ ho, hr⟩, hne⟩
  item := by
    intro X hP hw hK hc i pins s σ H E I hf st hg
    subst hP hw hK
    obtain ⟨⟨old, he⟩, hit, hne⟩ := st
    obtain ⟨xs, x, hq, hx⟩ := hg
    obtain ⟨its, rv, p, hz⟩ := I.tuple hq
    have p : s.heap.IsTuple a its.toArray := p
    have hai := tuple_apart p hit
    obtain ⟨u, hu, ru⟩ := rv.get hx
    have hlt : i < its.toArray.size := by
      rw [List.size_toArray]
      exact (List.getElem?_eq_some_iff.mp hu).1
    have hea : e ≠ a := fun q => by
      subst q
      obtain ⟨o, h1, h2, _⟩ := p
      rw [he] at h1
      cases h1
      have h3 : Value.type "enumerate" = Value.type "tuple" := h2
      exact absurd h3 (by decide)
    have hel : e < s.heap.objs.size := Heap.lt_size he
    have hil : it < s.heap.objs.size := by
      obtain ⟨_, q, _⟩ := hit
      exact Heap.lt_size q
    refine wpAny_pyNext_enum_itemD (Draws.tuple (A := X.A.in1) (I.ok.hd hc) it a hai its.toArray) he ⟨hit, p⟩ hlt hne (by simp [hne, hea]) fun y h1 tk hy ho st1 hT hsz hk => ?_
    have hy : its.toArray[i]? = some y := hy
    have : y = u := by
      rw [List.getElem?_toArray, hu] at hy
      exact (Option.some.inj hy).symm
    subst this
    refine ⟨_, rfl, wpAny_letOwnedTupleGo_enum (s := { s with heap := h1, toks := tk + 1 }) ho fun h2 he2 sb => ?_⟩
    have hT2 : h2.get? s.heap.objs.size = some { cls := .type "tuple", data := .seq #[.int i tk, y] } := (sb.2 _ (Nat.ne_of_gt hel)).trans hT
    have kk : ∀ b ob, b ∉ [e, it] → s.heap.get? b = some ob → h2.get? b = some ob := fun b ob hb q => (sb.2 b fun z => hb (by simp [z])).trans (hk b ob (fun z => hb (by simp [z])) (fun z => hb (by simp [z])) q)
    have I1 := I.turnedNew (t' := tk + 1) (T := s.heap.objs.size) (ob := .tup [.int (i : Nat), x]) kk hf (Nat.le_refl _) ⟨by show 2 ≤ sizeLine; decide, [.int i tk, y], .cons ⟨_, rfl⟩ (.cons ru .nil), ⟨_, hT2, rfl, _, rfl⟩⟩
    refine ⟨.ref s.heap.objs.size, _, I1, rfl, ⟨_, x, rfl, I.hok.fresh (Nat.le_refl _), rfl, fun ys hy => by rw [I.tuple_inj hy hq]; exact hx⟩, ⟨⟨y, ?_⟩, st1.1.at fun o q => (sb.2 it hne.symm).trans q, hne⟩, fun b hb => ?_⟩
    · rw [show ((i + 1 : Nat) : Int) = (i : Int) + 1 by omega]
      exact he2
    · have hlt2 : b < s.heap.objs.size := by
        have two : b = e ∨ b = it := by simpa using hb
        rcases two with rfl | rfl
        · exact hel
        · exact hil
      rw [upd_ne (Nat.ne_of_lt hlt2)]
      exact (hf b hb).1
  done := by
    intro X hP hw hK hc i pins s σ H E I hf st hg
    subst hP hw hK
    obtain ⟨⟨old, he⟩, hit, hne⟩ := st
    obtain ⟨xs, hq, hx⟩ := hg
    obtain ⟨its, rv, p, hz⟩ := I.tuple hq
    have p : s.heap.IsTuple a its.toArray := p
    have hl := rv.length
    have hT : s.TypeIs (.ref e) "enumerate" := ⟨_, he, rfl⟩
    unfold pyNext
    refine wpAny_bind (wpAny_attempt (wpAny_callSpecial?_slot (name := Str.ofString "__next__") hT F.slot_enumerate_next (wpAny_call_entry F.slot_enumerate_next hT F.entry_enumerate_next ?_ (F.args_enumerate_next_1 _))))
    show wpAny _ _ (field (.ref e) 2 >>= _) _ _ _
    refine wpAny_bind (wpAny_field he rfl (x := .ref it) rfl (wpAny_bind (wpAny_nextOf_tuple_end (A := X.A.in1) (I.ok.hd hc) hit p (by simp; omega) fun h1 z hk hz => ?_)))
    obtain ⟨o, ho, hcl⟩ := hz
    refine wpAny_bind (wpAny_isInstance (T := "StopIteration") (b := true) ⟨o, ho, hcl⟩ isSubtype_stop (wpAny_pure ?_))
    exact ⟨rfl, I.turnedL (t' := s.toks) (ch := [e, it]) (fun b ob hb q => hk b ob (fun z => hb (by simp [z])) q) hf⟩
  self := fun A i s Q E st h => by
    obtain ⟨⟨_, he⟩, _⟩ := st
    exact wpAny_pyIter_enum he h
def iEnumT (K : PySem.W.Frag) (ta : TA) : TI := fun σ H R => ta σ H fun vs H1 => ∃ a xs, vs = [.ref a] ∧ SqT K H1 a xs ∧ R (IteT K a) H1
theorem pi_enumT {X : Cx} {e : Expr} {ta : TA} {p pos tpos : Pos} {elts : List Expr} {kk : Nat} (hg : Gl X "enumerate") (hm : X.mg "enumerate" = none) (ha : PA X [e] ta) (hs : starEach [e] X.env = [(false, eval e X.env)]) :
    PI X (.Tuple elts kk tpos) (.Call (.Name "enumerate" p) [e] [] pos) (iEnumT X.K ta) := by
  constructor
  intro pins s σ H R I h
  refine Call_ (ld_blt I hg hm boot_enumerate (PyProof.Rows.callWith_type1 (thn (ha.run pos pins s σ H _ I h) fun us s1 ⟨vs, H1, I1, r1, q1⟩ => ?_) hs rfl))
  obtain ⟨a, xs, ex, hq, q⟩ := q1
  subst ex
  cases r1 with
  | cons r rr =>
    cases rr
    cases r
    obtain ⟨its, rv, p1, _⟩ := I1.tuple hq
    refine call_enumT (items := its.toArray) p1 fun h1 he hit hk => wpAny_pyIter_enum he ?_
    refine ⟨s1.heap.objs.size + 1, [s1.heap.objs.size + 1, s1.heap.objs.size], _, _, H1, rfl, I1.kept (t' := s1.toks) hk, turn_enumT a (s1.heap.objs.size + 1) s1.heap.objs.size, ⟨⟨.none, he⟩, hit, Nat.succ_ne_self _⟩, fun b hb => ?_, q⟩
    have hle : s1.heap.objs.size ≤ b := by
      have two : b = s1.heap.objs.size + 1 ∨ b = s1.heap.objs.size := by simpa using hb
      rcases two with z | z
      · rw [z]
        exact Nat.le_succ _
      · exact Nat.le_of_eq z.symm
    exact I1.fpOk hle (I1.hok.fresh hle)
section
variable {X : Cx} {W : WX} {e : Expr} {Te : TE2} {pos : Pos}
/-- the pairs of enumerate -/
def enumD (ds : List Dt) : List Dt := ds.mapIdx fun i d => .tup [.int (i : Int), d]
theorem enumD_len {ds : List Dt} : (enumD ds).length = ds.length := List.length_mapIdx
theorem enumD_get {ds : List Dt} {i : Nat} {d : Dt} (h : (enumD ds)[i]? = some d) : ∃ z, ds[i]? = some z ∧ d = .tup [.int (i : Int), z] := by
  unfold enumD at h
  rw [List.getElem?_mapIdx] at h
  cases e : ds[i]? with
  | none => rw [e] at h; cases h
  | some z =>
    rw [e] at h
    exact ⟨z, rfl, (Option.some.inj h).symm⟩
def dEnumT (Te : TE2) : TI2 := fun x ds S Q => Te x ds S fun d S1 => ∃ es, asT d = some es ∧ Q (enumD es) S1
theorem j_enumT {elts : List Expr} {kk : Nat} {p tpos : Pos} (he : E2 X W e Te) (hm : X.mg "enumerate" = none) (hg : Gl X "enumerate" := by rfl) (hs : starEach [e] X.env = [(false, eval e X.env)] := by rfl) :
    J2 X W (.Tuple elts kk tpos) (.Call (.Name "enumerate" p) [e] [] pos) (dEnumT Te) := ⟨fun x ds S Q Q' h q => he.mono x ds S _ _ (fun d S1 ⟨es, e, q⟩ => ⟨es, e, h _ _ q⟩) q, by
  obtain ⟨t, pt, r⟩ := he.run
  refine ⟨_, pi_enumT hg hm (pa_cons pt pa_nil (by rw [hs]; rfl)) hs, fun x ds S σ H R h q => r x ds S σ H _ h (he.mono x ds S _ _ (fun d S1 ⟨es, e1, q⟩ v H1 s1 r1 => ?_) q)⟩
  obtain ⟨a, xs, e2, k1, k2⟩ := asT_ok r1 e1
  subst e2
  cases d with
  | tup fs =>
    cases (show some fs = some es from e1)
    obtain ⟨a', xs', e3, g1, g2⟩ := r1
    cases e3
    refine ⟨a, xs', rfl, sqT_mono wo_le g1, q H1 _ s1 fun S2 H2 s2 => ?_⟩
    have g3 : SqT X.K H2 a xs' := sqT_mono wo_le (sqT_mono s2.same g1)
    have kk := g2.mono s2.same
    refine ⟨fun i hi => ?_, fun i hi => ⟨xs', g3, by rw [enumD_len] at hi; rw [g2.length]; exact hi⟩, fun i v H' d hy hd => ?_⟩
    · have hi' : i < xs'.length := by
        rw [enumD_len] at hi
        rw [g2.length]
        exact hi
      exact ⟨xs', xs'[i], g3, List.getElem?_eq_getElem hi'⟩
    · obtain ⟨T, y, ev, hT, eH, hv⟩ := hy
      subst ev eH
      obtain ⟨z, hz, ed⟩ := enumD_get hd
      subst ed
      obtain ⟨u, k3, k4⟩ := kk.get hz
      cases (hv xs' g3).symm.trans k3
      have sm := new_same (o := .tup [.int (i : Nat), y]) s2.wd hT
      exact ⟨⟨sm, new_wd s2.wd hT⟩, T, [.int (i : Nat), y], rfl, SqT.of (new_at s2.wd hT), ⟨_, _, rfl, rfl, ⟨_, _, rfl, k4.mono sm, rfl⟩⟩⟩
  | _ => cases e1⟩
end
end Sc

/-! the reversed copies xs[::-1] -/
namespace Sc
open PySem PySem.Spec PyProof.Rows L2 Sm
theorem rev_pick (xs : Array Value) : ((List.range xs.size).filterMap fun (k : Nat) => xs[(((xs.size : Nat) : Int) - 1 + (k : Int) * -1).toNat]?).toArray = xs.toList.reverse.toArray := by
  have e : ((List.range xs.size).filterMap fun (k : Nat) => xs[(((xs.size : Nat) : Int) - 1 + (k : Int) * -1).toNat]?) = ((List.range xs.size).map fun k => xs.size - 1 - k).filterMap (xs[·]?) := by
    rw [List.filterMap_map]
    refine congrArg (fun f => List.filterMap f (List.range xs.size)) (funext fun k => ?_)
    show xs[(((xs.size : Nat) : Int) - 1 + (k : Int) * -1).toNat]? = xs[xs.size - 1 - k]?
    congr 1
    omega
  rw [e, PySem.W.krv_range, List.filterMap_reverse, PySem.W.krv_all]
section
variable {prog : Program} {w : World} {A : Around} {E : Value → Shared → Prop} {s : Shared}
theorem applied_rev {sl : Addr} {vl vu vs : Value} {n : Nat} {Q : Int × Int × Nat → Shared → Prop} (hs : s.heap.IsSliceOf sl vl vu vs) (pl : IsPart vl none) (pu : IsPart vu none) (ps : IsPart vs (some (-1)))
    (q : Q ((n : Int) - 1, -1, n) s) : wpAny (model prog w) A (Builtin.Slice.sliceApplied (.ref sl) (pure (n : Int))) Q E s := by
  obtain ⟨os, ho, _, hd⟩ := hs
  unfold Builtin.Slice.sliceApplied Builtin.Slice.sliceFields
  refine wpAny_bind (wpAny_bind (wpAny_field ho hd (x := vl) rfl (wpAny_bind (wpAny_field ho hd (x := vu) rfl (wpAny_bind (wpAny_field ho hd (x := vs) rfl (wpAny_pure ?_)))))))
  refine wpAny_bind (HT.slicePart_ ps ?_)
  show wpAny _ _ (if ((-1 : Int) == 0) = true then _ else _) _ _ s
  rw [if_neg (by decide)]
  refine wpAny_bind (HT.slicePart_ pl (wpAny_bind (HT.slicePart_ pu (wpAny_bind (wpAny_pure ?_)))))
  show wpAny _ _ (match Builtin.Slice.sliceAdjust none none (-1) (n : Int) with | (lo, hi) => pure (lo, (-1 : Int), Builtin.Slice.slicePlaces lo hi (-1))) _ _ s
  have e1 : Builtin.Slice.sliceAdjust none none (-1) (n : Int) = ((n : Int) - 1, -1) := rfl
  have e2 : Builtin.Slice.slicePlaces ((n : Int) - 1) (-1) (-1) = n := by
    unfold Builtin.Slice.slicePlaces
    rw [if_neg (by decide)]
    have e3 : (-(-1) : Int) = 1 := by decide
    rw [e3, Int.ediv_one]
    split <;> omega
  rw [e1]
  show wpAny _ _ (pure ((n : Int) - 1, (-1 : Int), Builtin.Slice.slicePlaces ((n : Int) - 1) (-1) (-1))) _ _ s
  rw [e2]
  exact wpAny_pure q
theorem get_revT {t sl : Addr} {items : Array Value} {vl vu vs : Value} {Q : Value → Shared → Prop} (ht : IsTup s.heap t items) (hs : s.heap.IsSliceOf sl vl vu vs) (pl : IsPart vl none) (pu : IsPart vu none) (ps : IsPart vs (some (-1)))
    (q : Q (.ref s.heap.objs.size) { s with heap := s.heap.push { cls := .type "tuple", data := .seq items.toList.reverse.toArray } }) (hz : items.size ≤ sizeLine) : wpAny (model prog w) A (getItem (.ref t) (.ref sl)) Q E s := by
  have hz2 : sizeOk (.seq items.toList.reverse.toArray) := by
    show items.toList.reverse.toArray.size ≤ sizeLine
    rw [List.size_toArray, List.length_reverse, Array.length_toList]
    exact hz
  obtain ⟨os, ho, hcs, hd⟩ := id hs
  have hT : s.TypeIs (.ref sl) "slice" := ⟨os, ho, hcs⟩
  unfold getItem
  try with_reducible refine wpAny_holding ?_
  first | refine wpAny_bind (wpAny_pure ?_) | skip
  refine wpAny_bind (wpAny_sequenceKey ht.typeIs (by decide) (wpAny_bind (wpAny_callSpecial?_slot (name := Str.ofString "__getitem__") ht.typeIs PyProof.Rows.slot_tuple_getitem (wpAny_call_entry PyProof.Rows.slot_tuple_getitem ht.typeIs entry_tuple_getitem ?_ (args_tuple_getitem _ _)))))
  show wpAny _ _ (Builtin.Tuple.tupleItemsOf (.ref t) >>= _) _ _ s
  refine wpAny_bind (tupleItemsOf_ ht (wpAny_bind (wpAny_typeOf hT ?_)))
  rw [if_pos (by decide)]
  refine wpAny_bind (applied_rev hs pl pu ps ?_)
  have no : ¬ (((((items.size : Nat) : Int) - 1) == 0 && (-1 : Int) == 1 && items.size == items.size) = true) := by
    intro z
    rw [Bool.and_eq_true, Bool.and_eq_true] at z
    exact absurd z.1.2 (by decide)
  show wpAny _ _ (if ((((items.size : Nat) : Int) - 1) == 0 && (-1 : Int) == 1 && items.size == items.size) = true then _ else _) _ _ s
  rw [if_neg no, rev_pick]
  first
    | exact wpAny_bind (m := Builtin.Tuple.tupleExact _) (wpAny_newObj_type (wpAny_pure ⟨_, rfl, wpAny_pure q⟩) hz2)
    | exact wpAny_bind (m := Builtin.Tuple.tupleExact _) (wpAny_newObj_type (wpAny_bind (wpAny_pure (wpAny_pure ⟨_, rfl, wpAny_pure q⟩))) hz2)
    | exact wpAny_bind (wpAny_bind (m := Builtin.Tuple.tupleExact _) (wpAny_newObj_type (wpAny_pure (wpAny_pure ⟨_, rfl, wpAny_pure q⟩)) hz2))
    | exact wpAny_bind (wpAny_bind (m := Builtin.Tuple.tupleExact _) (wpAny_newObj_type (wpAny_pure ⟨_, rfl, wpAny_pure q⟩) hz2))
end
def tRevT (K : PySem.W.Frag) (te : TE) : TE := fun σ H Q => te σ H fun x H1 => ∃ a xs, x = .ref a ∧ SqT K H1 a xs ∧ ∀ p, H1 p = none → Q (.ref p) (upd H1 p (.tup xs.reverse))
theorem pe_revT {X : Cx} {e : Expr} {te : TE} {k : Nat} {p1 p2 p3 pos : Pos} (he : PE X e te) : PE X (.Subscript e (.Slice none none (some (.UnaryOp .USub (.Constant (.int 1) k p1) p2)) p3) pos) (tRevT X.K te) := by
  constructor
  intro pins s σ H Q I h
  refine Subscript_ (thn (he.run pins s σ H _ I h) fun v s1 ⟨x, H1, I1, rx, a, xs, ex, hx, q⟩ => ?_)
  subst ex
  cases rx
  have minus : PO X (some (.UnaryOp .USub (.Constant (.int 1) k p1) p2)) (tPart (tUn (rU fun i => .int (-i)) (tC (.int 1)))) := po_some (pe_un un_neg pe_int)
  refine wpAny_Slice (thn (po_none.run pins s1 σ H1 (fun o H2 => o = none ∧ H2 = H1) I1 ⟨rfl, rfl⟩) fun vl s2 ⟨l, H2, I2, pl, el, e2⟩ => thn (po_none.run pins s2 σ H2 (fun o H3 => o = none ∧ H3 = H2) I2 ⟨rfl, rfl⟩) fun vu s3 ⟨u, H3, I3, pu, eu, e3⟩ =>
    thn (minus.run pins s3 σ H3 (fun o H4 => o = some (-1) ∧ H4 = H3) I3 ⟨1, rfl, -1, rfl, rfl, rfl⟩) fun vs s4 ⟨o, H4, I4, ps, eo, e4⟩ => ?_)
  subst el e2 eu e3 eo e4
  have I5 : Inv X pins σ H4 { s4 with heap := s4.heap.push { cls := .type "slice", data := .fields #[vl, vu, vs] } } := I4.kept (t' := s4.toks) fun b ob q => Heap.get?_push_of_some _ q
  obtain ⟨its, r, ht, hz⟩ := I5.tuple hx
  have hl := r.length
  show wpAny (model X.prog X.w) X.A (subscriptTail e (.Slice none none (some (.UnaryOp .USub (.Constant (.int 1) k p1) p2)) p3) (.ref a) (.ref s4.heap.objs.size)) (EP X pins σ Q) X.xe { s4 with heap := s4.heap.push { cls := .type "slice", data := .fields #[vl, vu, vs] } }
  refine tail_any (ops := [.ref a, .ref s4.heap.objs.size]) ht.typeIs PyProof.Rows.slot_tuple_getitem.lookup ?_ (by with_unfolding_all rfl)
  refine get_revT ht (Heap.IsSliceOf.new _ vl vu vs) pl pu ps ?_ (by rw [List.size_toArray]; omega)
  refine ⟨.ref _, _, I5.laid (t' := s4.toks) (o := .tup xs.reverse) (fun b ob q => Heap.get?_push_of_some _ q) (Nat.le_refl _) ⟨by rw [List.length_reverse]; exact hz, its.reverse, r.reverse, ?_⟩, rfl, q _ (I5.hok.fresh (Nat.le_refl _))⟩
  exact IsTup.new _ _
section
variable {X : Cx} {W : WX} {e : Expr} {Te : TE2} {pos : Pos}
def dRevT (Te : TE2) : TE2 := fun x ds S Q => Te x ds S fun d S1 => ∃ es, asT d = some es ∧ Q (.tup es.reverse) S1
theorem e_revT {k : Nat} {p1 p2 p3 : Pos} (he : E2 X W e Te) : E2 X W (.Subscript e (.Slice none none (some (.UnaryOp .USub (.Constant (.int 1) k p1) p2)) p3) pos) (dRevT Te) := ⟨fun x ds S Q Q' h p => he.mono x ds S _ _ (fun d S1 ⟨es, e, q⟩ => ⟨es, e, h _ _ q⟩) p, by
  obtain ⟨t, p, r⟩ := he.run
  refine ⟨_, pe_revT p, fun x ds S σ H Q h q => r x ds S σ H _ h (he.mono x ds S _ _ (fun d S1 ⟨es, e1, q⟩ v H1 s1 r1 => ?_) q)⟩
  obtain ⟨a, xs, e2, k1, k2⟩ := asT_ok r1 e1
  exact ⟨a, xs, e2, k1, fun p hp => newT.run s1 k2.rev q hp⟩⟩
def dRevL (Te : TE2) : TE2 := fun x ds S Q => Te x ds S fun d S1 => ∃ es, asL S1 d = some es ∧ newL es.reverse S1 Q
theorem e_revL {k : Nat} {p1 p2 p3 : Pos} (he : E2 X W e Te) : E2 X W (.Subscript e (.Slice none none (some (.UnaryOp .USub (.Constant (.int 1) k p1) p2)) p3) pos) (dRevL Te) := ⟨fun x ds S Q Q' h p => he.mono x ds S _ _ (fun d S1 ⟨es, e, q⟩ => ⟨es, e, newL.mono h q⟩) p, by
  obtain ⟨t, p, r⟩ := he.run
  refine ⟨_, pe_revL p, fun x ds S σ H Q h q => r x ds S σ H _ h (he.mono x ds S _ _ (fun d S1 ⟨es, e1, q⟩ v H1 s1 r1 => ?_) q)⟩
  obtain ⟨a, xs, e2, k1, k2⟩ := asL_ok s1.wd r1 e1
  exact ⟨a, xs, e2, k1, fun p hp => newL.run s1 k2.rev q hp⟩⟩
end
end Sc
namespace Sc
open PySem PySem.Spec PyProof.Rows L2 Sm
section
variable {G : TG2} {B : TS2} {x : XK2} {D : Ends2}
/-- a loop over what is told by its number -/
theorem loop_idx (enc : Nat → Dt) (I : Nat → Ds → Cells → Prop) {n : Nat} {ds : Ds} {S : Cells} (h0 : I 0 ds S)
    (step : ∀ (i : Nat) ds S (N : Ds → Cells → Prop), i < n → I i ds S → (∀ ds' S', I (i + 1) ds' S' → N ds' S') → G (enc i) ds S fun ds1 S1 => B x ⟨N, D.rt, D.nx, N⟩ ds1 S1)
    (done : ∀ ds S, I n ds S → D.nx ds S) : dLoop G B x D ((List.range n).map enc) ds S := by
  refine loop_rest (B := B) enc (fun r ds S => ∃ i : Nat, I i ds S ∧ i + r.length = n ∧ r = List.range' i r.length) ?st ?dn _ ds S ⟨0, h0, by simp, by simp [List.range_eq_range']⟩
  case st =>
    intro a r ds S N ⟨i, h, e, m⟩ hN
    rw [List.length_cons, List.range'_succ] at m
    obtain ⟨rfl, hr⟩ := List.cons.inj m
    rw [List.length_cons] at e
    exact step a ds S N (by omega) h fun ds' S' h' => hN ds' S' ⟨a + 1, h', by omega, hr⟩
  case dn =>
    intro ds S ⟨i, h, e, _⟩
    rw [List.length_nil] at e
    have e' : i = n := by omega
    rw [e'] at h
    exact done ds S h
end
theorem enumD_map {α : Type} (g : α → Dt) (l : List α) (z : α) : enumD (l.map g) = (List.range l.length).map fun (j : Nat) => .tup [.int (j : Int), g (l.getD j z)] := by
  refine List.ext_getElem? fun i => ?_
  unfold enumD
  rw [List.getElem?_mapIdx, List.getElem?_map, List.getElem?_map]
  by_cases h : i < l.length
  · rw [List.getElem?_range h, List.getElem?_eq_getElem h]
    simp [List.getD, List.getElem?_eq_getElem h]
  · rw [List.getElem?_eq_none (by omega), List.getElem?_eq_none (by simp; omega)]
    rfl
theorem map_set {α : Type} (f : Nat → α) (n k : Nat) (d : α) : ((List.range n).map f).set k d = (List.range n).map fun i => if i = k then d else f i := by
  refine List.ext_getElem? fun i => ?_
  rw [List.getElem?_set, List.getElem?_map, List.getElem?_map]
  by_cases h : i < n
  · rw [List.getElem?_range h]
    by_cases e : k = i
    · rw [if_pos e, if_pos (by simp; omega)]
      simp [e]
    · rw [if_neg e]
      simp [Ne.symm e]
  · rw [List.getElem?_eq_none (by simp; omega)]
    by_cases e : k = i
    · rw [if_pos e, if_neg (by simp; omega)]
      rfl
    · rw [if_neg e]
      rfl
theorem isIn_int (i : Int) (l : List Int) : isIn (.int i) (l.map Dt.int) = decide (i ∈ l) := by
  unfold isIn
  rw [List.map_map]
  show inV (.int i) (l.map V.int) = _
  induction l with
  | nil => rfl
  | cons a l ih =>
    have e : inV (.int i) (V.int a :: l.map V.int) = ((eqV (.int a) (.int i)) || inV (.int i) (l.map V.int)) := rfl
    rw [List.map_cons, e, ih]
    have e2 : eqV (.int a) (.int i) = (a == i) := rfl
    rw [e2]
    by_cases h : a = i
    · subst h; simp
    · have h2 : ¬ i = a := fun e => h e.symm
      simp [h, h2]
end Sc

/-! a tuple, not empty, times 0 or 1, or more -/
namespace Sc
open PySem PySem.Spec PyProof.Rows L2 Sm
open PySem.SeqAt
open PySem.AutoSeq1 (wpAny_loadPart')
theorem mul_one' (l : Addr) (items : Array Value) (n : Nat) (dd : Option Addr) (sl : Array (Option Value)) (u : Tok) :
    Meets (Builtin.«tuple.__mul__» ⟨[.ref l, .int 1 u], []⟩) (fun _ R s => s.heap.get? l = some { cls := .type "tuple", dict := dd, data := .seq items n, slots := sl } ∧ R (.ok (.ret (Value.ref l))) s) :=
  .of_wp fun prog w A R s h => by
    obtain ⟨hp, g, d, tk, os⟩ := s
    obtain ⟨hl, h⟩ := h
    have f1 := AutoSeq1.idx_int
    wp_walk using wpAny_loadPart' hl
    exact ⟨_, rfl, h⟩
theorem mul_zero' (l : Addr) (items : Array Value) (n : Nat) (dd : Option Addr) (sl : Array (Option Value)) (u : Tok) (hi : items.isEmpty = false) :
    Meets (Builtin.«tuple.__mul__» ⟨[.ref l, .int 0 u], []⟩) (fun _ R s => s.heap.get? l = some { cls := .type "tuple", dict := dd, data := .seq items n, slots := sl } ∧ R (.ok (.ret (Value.ref s.heap.objs.size))) { s with heap := s.heap.push { cls := Value.type "tuple", data := Data.seq #[] }, toks := s.toks }) :=
  .of_wp fun prog w A R s h => by
    obtain ⟨hp, g, d, tk, os⟩ := s
    obtain ⟨hl, h⟩ := h
    have f1 := AutoSeq1.idx_int
    have c1 : (items.isEmpty || (0 : Int) == 1) = false := by rw [hi]; rfl
    wp_walk using wpAny_loadPart' hl
    repeat (first
      | (refine wpAny_ite_false (decide_eq_false (by rw [c1]; exact Bool.false_ne_true)) ?_; wp_walk using wpAny_loadPart' hl))
    exact ⟨_, rfl, h⟩
/-- a tuple, not empty, so many times -/
def rRepAny (K : PySem.W.Frag) : R2 := fun x y H Q => ∃ l k xs, x = .ref l ∧ y = .int k ∧ SqT K H l xs ∧ xs ≠ [] ∧ 0 ≤ k ∧ k ≤ 1000 ∧ xs.length ≤ 1000 ∧ (k = 1 → Q (.ref l) H) ∧ (k ≠ 1 → ∀ p, H p = none → Q (.ref p) (upd H p (.tup (List.replicate k.toNat xs).flatten)))
theorem op_repAny {X : Cx} : OpR X (binaryOp .Mult) (rRepAny X.K) := by
  intro pins s σ H x y v u Q I rx ry h
  obtain ⟨l, k, xs, rfl, rfl, hT, hne, h0, h1, hz, q1, q2⟩ := h
  by_cases h2 : 2 ≤ k
  · exact op_repT pins s σ H _ _ v u Q I rx ry ⟨l, k, xs, rfl, rfl, hT, hne, h2, h1, hz, q2 (by omega)⟩
  · cases rx
    obtain ⟨t, rfl⟩ := ry
    obtain ⟨its, r, ⟨⟨cls, dd, data, sl⟩, ho, hc, n, hd⟩, hs⟩ := I.tuple hT
    simp only at hc hd
    subst hc hd
    have hi : its.toArray.isEmpty = false := by
      cases its with
      | nil =>
        cases r
        exact absurd rfl hne
      | cons a b => rfl
    have cs : k = 0 ∨ k = 1 := by omega
    rcases cs with rfl | rfl
    · refine wpAny_binaryOp_repeat_ref (T := "tuple") (U := "int") (by decide) ⟨_, ho, rfl⟩ (fun s' => typeIs_int s' 0 t) noFill_tuple_mul F.fills_int_mul F.slot_int_rmul repeat_tuple F.slot_int_index.lookup
        (call_meets F.slot_int_rmul (typeIs_int s 0 t) F.entry_int_rmul (F.args_int_rmul_2 _ _) (int_rmul_tuple 0 t l its.toArray n dd sl) ⟨ho, rfl, ⟨_, ho, rfl⟩, call_meets F.slot_tuple_mul ⟨_, ho, rfl⟩ F.entry_tuple_mul (F.args_tuple_mul_2 _ _) (mul_zero' l its.toArray n dd sl t hi) ⟨ho, ?_⟩⟩)
      refine ⟨.ref s.heap.objs.size, _, I.laid (t' := s.toks) (o := .tup []) (fun b ob q => Heap.get?_push_of_some _ q) (Nat.le_refl _) ⟨Nat.zero_le _, [], .nil, IsTup.new _ _⟩, rfl, ?_⟩
      have := q2 (by decide) s.heap.objs.size (I.hok.fresh (Nat.le_refl _))
      exact this
    · refine wpAny_binaryOp_repeat_ref (T := "tuple") (U := "int") (by decide) ⟨_, ho, rfl⟩ (fun s' => typeIs_int s' 1 t) noFill_tuple_mul F.fills_int_mul F.slot_int_rmul repeat_tuple F.slot_int_index.lookup
        (call_meets F.slot_int_rmul (typeIs_int s 1 t) F.entry_int_rmul (F.args_int_rmul_2 _ _) (int_rmul_tuple 1 t l its.toArray n dd sl) ⟨ho, rfl, ⟨_, ho, rfl⟩, call_meets F.slot_tuple_mul ⟨_, ho, rfl⟩ F.entry_tuple_mul (F.args_tuple_mul_2 _ _) (mul_one' l its.toArray n dd sl t) ⟨ho, ?_⟩⟩)
      exact ⟨.ref l, H, I, rfl, q1 rfl⟩
section
variable {X : Cx}
def qRepA : QO := fun d e S Q => ∃ ds k, asT d = some ds ∧ e = .int k ∧ ds ≠ [] ∧ 0 ≤ k ∧ k ≤ 1000 ∧ ds.length ≤ 1000 ∧ Q (.tup (List.replicate k.toNat ds).flatten) S
theorem o_repA : O2 X (binaryOp .Mult) qRepA := ⟨fun d e S Q Q' hq ⟨ds, k, h1, h2, h3, h4, h5, h6, q⟩ => ⟨ds, k, h1, h2, h3, h4, h5, h6, hq _ _ q⟩, _, op_repAny, fun d e v u S H Q w r1 r2 ⟨ds, k, h1, h2, h3, h4, h5, h6, q⟩ => by
  obtain ⟨a, xs, e1, k1, k2⟩ := asT_ok r1 h1
  subst h2 e1
  refine ⟨a, k, xs, rfl, r2, k1, fun z => h3 ?_, h4, h5, by rw [k2.length]; exact h6, fun e => ?_, fun _ p hp => newT.run ⟨Same.refl _, w⟩ (k2.rep k.toNat) q hp⟩
  · have := k2.length
    rw [z] at this
    exact List.eq_nil_of_length_eq_zero this.symm
  · subst e
    have e2 : (List.replicate (Int.toNat 1) ds).flatten = ds := by
      show (List.replicate 1 ds).flatten = ds
      simp
    rw [e2] at q
    refine q _ H ⟨Same.refl _, w⟩ ?_
    cases d with
    | tup es => cases (show some es = some ds from h1); exact r1
    | _ => cases h1⟩
end
end Sc

namespace Sc
open PySem PySem.Spec PyProof.Rows L2 Sm
/-! ### parts of chains, as data -/
theorem cutG_map {α β : Type} {g : α → β} {c : List α} {lo hi : Option Int} : cutG (c.map g) lo hi = (cutG c lo hi).map g := by
  unfold cutG
  rw [List.length_map, List.map_take, List.map_drop]
theorem cutG_mem {α : Type} {c : List α} {lo hi : Option Int} {s : α} (h : s ∈ cutG c lo hi) : s ∈ c := List.mem_of_mem_drop (List.mem_of_mem_take h)
theorem sIx_nat {n d i : Nat} : HT.sIx n d (some (i : Int)) = min i n := by
  simp only [HT.sIx]
  first
    | omega
    | (split <;> omega)
theorem sIx_none {n d : Nat} : HT.sIx n d none = d := rfl
theorem cutG_to {α : Type} {c : List α} {i : Nat} : cutG c none (some (i : Int)) = c.take i := by
  unfold cutG
  rw [sIx_nat, sIx_none, List.drop_zero, Nat.sub_zero]
  by_cases h : i ≤ c.length
  · rw [Nat.min_eq_left h]
  · rw [Nat.min_eq_right (by omega), List.take_of_length_le (by omega), List.take_of_length_le (by omega)]
theorem cutG_from {α : Type} {c : List α} {i : Nat} : cutG c (some (i : Int)) none = c.drop i := by
  unfold cutG
  rw [sIx_nat, sIx_none, List.take_of_length_le (by rw [List.length_drop]; omega)]
  by_cases h : i ≤ c.length
  · rw [Nat.min_eq_left h]
  · rw [Nat.min_eq_right (by omega), List.drop_of_length_le (by omega), List.drop_of_length_le (by omega)]
theorem cutG_next {α : Type} {c : List α} {i : Nat} : cutG c (some ((i : Int) + 1)) none = c.drop (i + 1) := by
  have e : (i : Int) + 1 = ((i + 1 : Nat) : Int) := by omega
  rw [e, cutG_from]
theorem at_mapG {α β : Type} {g : α → β} {l : List α} {i : Int} {s : α} (h : atI l i = some s) : atI (l.map g) i = some (g s) := by
  unfold atI at h ⊢
  rw [List.length_map]
  cases e : ixN l.length i with
  | none => rw [e] at h; cases h
  | some k =>
    rw [e] at h
    have h : l[k]? = some s := h
    show (l.map g)[k]? = some (g s)
    rw [List.getElem?_map, h]
    rfl
theorem okB_g {a : Option Int} (h : okB a) : okB (some (a.getD 0)) := fun j e => by
  cases e
  cases a with
  | none => decide
  | some i => exact h i rfl
theorem okB_w {w : Int} {o : Option Int} (h : inW w o) (hw : w ≤ 30) : okB o := fun j e => by
  have := h j e
  omega
theorem okB_n : okB none := fun i e => by cases e
theorem okB_i {i : Int} (h : -30 ≤ i ∧ i ≤ 30) : okB (some i) := fun j e => by cases e; exact h
theorem sEq_dO (o : Option Int) : sEq (dO o) (dO o) = some true := by
  cases o with
  | none => rfl
  | some i =>
    show some (decide (i = i)) = some true
    simp
theorem dCh_cat {c d : List Sl} : List.map dS c ++ List.map dS d = List.map dS (c ++ d) := (List.map_append ..).symm
/-- one slice of a chain is another -/
theorem okC_put {c : List Sl} (h : okC c) {i : Nat} (hi : i < c.length) {o : Sl} (ho : okS o) : okC (c.take i ++ [o] ++ c.drop (i + 1)) := by
  refine ⟨by simp only [List.length_append, List.length_singleton, List.length_take, List.length_drop]; have := h.1; omega, fun z hz => ?_⟩
  simp only [List.mem_append, List.mem_singleton] at hz
  rcases hz with (hz | hz) | hz
  · exact h.2 z (List.mem_of_mem_take hz)
  · rw [hz]; exact ho
  · exact h.2 z (List.mem_of_mem_drop hz)
/-- a comprehension over what is told by its parts, with a test -/
theorem comp_filA2 {α : Type} {G : TG2} {Tt : TT2} {Te : TE2} {p : Addr} {ds : Ds} {Q : QE} (enc : α → Dt) (f : α → Bool) (g : α → Dt) : ∀ (l : List α) (acc : List Dt) (S : Cells), acc.length + l.length < 100000 →
    (∀ a, a ∈ l → ∀ (S : Cells) (R1 : QE) (R2 : Cells → Prop), (f a = true → R1 (g a) S) → (f a = false → R2 S) → G (enc a) ds S fun ds2 S2 => Tt x0 ds2 S2 fun k S3 => if k = true then Te x0 ds2 S3 R1 else R2 S3) →
    ((∀ c, Q (.lst (acc ++ (l.filter f).map g)) ((S.put p c).del p)) ∨ Q (.ref p) (S.put p (.lst (acc ++ (l.filter f).map g)))) → dComp G Tt Te p ds Q (l.map enc) acc (S.put p (.lst acc))
  | [], acc, S, _, h, q => ⟨Cells.put_same, by
    rcases q with q | q
    · exact .inl (by simpa using q _)
    · exact .inr (by simpa using q)⟩
  | d :: r, acc, S, hl, h, q => by
    have hl' : acc.length + (r.length + 1) < 100000 := hl
    refine h d List.mem_cons_self _ (fun y S4 => S4 p = some (.lst acc) ∧ acc.length < 100000 ∧ dComp G Tt Te p ds Q (r.map enc) (acc ++ [y]) (S4.put p (.lst (acc ++ [y])))) (fun S3 => dComp G Tt Te p ds Q (r.map enc) acc S3) (fun k => ⟨Cells.put_same, by omega, ?_⟩) (fun k => ?_)
    · rw [Cells.put_put]
      refine comp_filA2 enc f g r (acc ++ [g d]) S (by rw [List.length_append, List.length_singleton]; omega) (fun e he => h e (List.mem_cons_of_mem _ he)) ?_
      rw [List.filter_cons_of_pos k] at q
      rcases q with q | q
      · exact .inl (by simpa using q)
      · exact .inr (by simpa using q)
    · refine comp_filA2 enc f g r acc S (by omega) (fun e he => h e (List.mem_cons_of_mem _ he)) ?_
      rw [List.filter_cons_of_neg (by rw [k]; decide)] at q
      exact q
theorem comp_filE {α : Type} {G : TG2} {Tt : TT2} {Te : TE2} {ds : Ds} {S : Cells} {Q : QE} {l : List α} (enc : α → Dt) (f : α → Bool) (g : α → Dt) (hl : l.length < 100000)
    (h : ∀ a, a ∈ l → ∀ (S : Cells) (R1 : QE) (R2 : Cells → Prop), (f a = true → R1 (g a) S) → (f a = false → R2 S) → G (enc a) ds S fun ds2 S2 => Tt x0 ds2 S2 fun k S3 => if k = true then Te x0 ds2 S3 R1 else R2 S3)
    (q : newL ((l.filter f).map g) S Q) : ∀ p, S p = none → dComp G Tt Te p ds Q (l.map enc) [] (S.put p (.lst [])) := fun p hp => by
  refine comp_filA2 enc f g l [] S (by simpa using hl) h ?_
  rcases q with q | q
  · refine .inl fun c => ?_
    rw [del_put hp]
    simpa using q
  · exact .inr (by simpa using q p hp)
theorem comp_mapE {α : Type} {G : TG2} {Te : TE2} {ds : Ds} {S : Cells} {Q : QE} {l : List α} (enc : α → Dt) (g : α → Dt) (hl : l.length < 100000)
    (h : ∀ a, a ∈ l → ∀ (S : Cells) (R : QE), R (g a) S → G (enc a) ds S fun ds2 S2 => Te x0 ds2 S2 R)
    (q : newL (l.map g) S Q) : ∀ p, S p = none → dComp G dYes Te p ds Q (l.map enc) [] (S.put p (.lst [])) :=
  comp_filE enc (fun _ => true) g hl (fun a ha S R1 R2 y _ => h a ha S (fun d S3 => if true = true then R1 d S3 else R2 S3) (y rfl)) (by rw [List.filter_eq_self.mpr (fun _ _ => rfl)]; exact q)
/-- a store that grew from S, the list at p still to be told -/
structure Grow (S : Cells) (p : Addr) (S' : Cells) : Prop where
  use : ∀ (Q : QE) (d : Dt) (c : Cell), Fg Q → Q d (S.put p c) → Q d (S'.put p c)
theorem Grow.base {S : Cells} {p : Addr} {c : Cell} : Grow S p (S.put p c) := ⟨fun Q d c' _ q => by rw [Cells.put_put]; exact q⟩
theorem Grow.put {S S' : Cells} {p : Addr} {c : Cell} (h : Grow S p S') : Grow S p (S'.put p c) := ⟨fun Q d c' f q => by rw [Cells.put_put]; exact h.use Q d c' f q⟩
theorem Grow.fresh {S S' : Cells} {p q : Addr} {c : Cell} (h : Grow S p S') (hq : S' q = none) (ne : q ≠ p) : Grow S p (S'.put q c) := ⟨fun Q d c' f z => by
  rw [put_comm ne]
  exact f _ _ _ _ (by rw [Cells.put_ne ne]; exact hq) (h.use Q d c' f z)⟩
theorem newL.fin {l : List Dt} {S : Cells} {Q : QE} {r : Addr} (frg : Frg Q) (hr : S r = none) (q : newL l S Q) : Q (.ref r) (S.put r (.lst l)) := q.elim (frg.fz S r l hr) (fun q => q r hr)
theorem at_last {l : List Dt} {d : Dt} : atI (l ++ [d]) (-1) = some d := by
  have e : ixN (l ++ [d]).length (-1) = some l.length := by
    unfold ixN
    rw [List.length_append, List.length_singleton, if_neg (by decide)]
    first
      | (rw [if_pos (by omega)]; congr 1; omega)
      | (simp; omega)
      | simp
  unfold atI
  rw [e]
  show (l ++ [d])[l.length]? = some d
  simp
end Sc

namespace Sc
open PySem PySem.Spec PyProof.Rows L2 Sm
section
variable {X : Cx}
abbrev qModN : QO := qI (fun _ j => j ≠ 0) fun i j => .int (i.fmod j)
/-- list.index of a number -/
def qIndex : Dt → List Dt → Cells → QE → Prop := fun d es S Q => ∃ (l : List Int) (k : Int) (j : Nat), asL S d = some (l.map Dt.int) ∧ es = [.int k] ∧ l[j]? = some k ∧ (∀ m, m < j → l[m]? ≠ some k) ∧ Q (.int (j : Int)) S
theorem m_index : M2 X "list" "list.index" qIndex := ⟨fun d es S Q Q' hq ⟨l, k, j, h1, h2, h3, h4, q⟩ => ⟨l, k, j, h1, h2, h3, h4, hq _ _ q⟩, _, mt_index, fun d es v us S H Q w r rs ⟨l, k, j, h1, h2, h3, h4, q⟩ => by
  subst h2
  obtain ⟨a, xs, e1, k1, k2⟩ := asL_ok w r h1
  subst e1
  obtain ⟨u, e2, r2⟩ := rps1 rs
  cases (show u = _ from r2)
  have ex := k2.ints
  subst ex
  refine ⟨a, l.map V.int, .int k, j, .int k, rfl, e2, k1, rfl, ?_, ?_, ?_, ?_, q _ H ⟨Same.refl _, w⟩ rfl⟩
  · rw [List.all_map]
    exact List.all_eq_true.mpr fun _ _ => rfl
  · rw [List.getElem?_map, h3]
    rfl
  · show (k == k) = true
    simp
  · intro m z' hm hz
    rw [List.getElem?_map] at hz
    cases e : l[m]? with
    | none => rw [e] at hz; cases hz
    | some y =>
      rw [e] at hz
      cases hz
      show (y == k) = false
      have := h4 m hm
      rw [e] at this
      simpa using this⟩
/-- list.pop(i) -/
def qPopAt : Dt → List Dt → Cells → QE → Prop := fun d es S Q => ∃ a ds i z, d = .ref a ∧ es = [.int i] ∧ S a = some (.lst ds) ∧ 0 ≤ i ∧ i < ds.length ∧ ds.length ≤ 100000 ∧ ds[i.toNat]? = some z ∧ Q z (S.put a (.lst (ds.eraseIdx i.toNat)))
theorem Rps.erase {K : PySem.W.Frag} {I : Hp} : ∀ {ds : List Dt} {xs : List V} (n : Nat), Rps K I ds xs → Rps K I (ds.eraseIdx n) (xs.eraseIdx n)
  | [], _, n, h => by cases (show _ = _ from h); exact rfl
  | d :: ds, _, 0, ⟨v, vs, e1, h1, h2⟩ => by subst e1; exact h2
  | d :: ds, _, n + 1, ⟨v, vs, e1, h1, h2⟩ => by
    subst e1
    exact ⟨v, vs.eraseIdx n, rfl, h1, Rps.erase n h2⟩
theorem m_popAt : M2 X "list" "list.pop" qPopAt := ⟨fun d es S Q Q' hq ⟨a, ds, i, z, h1, h2, h3, h4, h5, h6, h7, q⟩ => ⟨a, ds, i, z, h1, h2, h3, h4, h5, h6, h7, hq _ _ q⟩, _, mt_popAt, fun d es v us S H Q w r rs ⟨a, ds, i, z, h1, h2, h3, h4, h5, h6, h7, q⟩ => by
  subst h1 h2
  obtain ⟨u, e1, r1⟩ := rps1 rs
  cases (show u = _ from r1)
  obtain ⟨xs, k1, k2⟩ := w a _ h3
  have hS : S a ≠ none ∨ H a = none := .inl (by rw [h3]; intro z; cases z)
  have hl := k2.length
  obtain ⟨y, g1, g2⟩ := k2.get h7
  have hwo := put_wo (H := H) (o := .lst (xs.eraseIdx i.toNat)) (.lst (ds.eraseIdx i.toNat)) hS
  have hk : seqIndex? i xs.length = some i.toNat := by
    have e : ixN xs.length i = some i.toNat := by
      unfold ixN
      rw [if_pos h4, if_pos (by rw [hl]; exact h5)]
    exact (ixN_seq e).1
  refine ⟨a, xs, i, i.toNat, y, r, e1, k1, by omega, by omega, hk, g1, q _ _ ⟨?_, put_wd w hS ⟨_, upd_same, k2.erase _⟩⟩ ?_⟩
  · rw [hwo]
    exact Same.refl _
  · rw [hwo]
    exact g2⟩
end
end Sc

/-! tuples of the module; t.index(x) -/
namespace Sc
open PySem PySem.Spec PyProof.Rows L2 Sm
/-- the module's name x is the tuple of these -/
def TupG (K : PySem.W.Frag) (mg : Str → Option Value) (x : Str) (ds : List Dt) : Prop := ∃ a, mg x = some (.ref a) ∧ (∀ I, Rp K I (.tup ds) (.ref a)) ∧ ∃ o, K.lookup a = some o ∧ o.cls = .type "tuple" ∧ o.dict = none
def tupN (K : PySem.W.Frag) (x : Str) : Bool := match K.lookup (He.ga K x) with
  | some ⟨.type c, none, _, _⟩ => decide (c = "tuple")
  | _ => false
theorem tupN_ok {K : PySem.W.Frag} {x : Str} (h : tupN K x = true) : ∃ o, K.lookup (He.ga K x) = some o ∧ o.cls = .type "tuple" ∧ o.dict = none := by
  unfold tupN at h
  cases q : K.lookup (He.ga K x) with
  | none =>
    rw [q] at h
    cases h
  | some o =>
    obtain ⟨oc, od, dt, osl⟩ := o
    rw [q] at h
    cases oc with
    | type c =>
      cases od with
      | none => exact ⟨_, rfl, congrArg Value.type (of_decide_eq_true h), rfl⟩
      | some d => cases h
    | _ => cases od <;> cases h
theorem rps_strs {K : PySem.W.Frag} {I : Hp} : ∀ ns : List Str, Rps K I (ns.map Dt.str) (ns.map V.str)
  | [] => rfl
  | n :: ns => ⟨_, _, rfl, rfl, rps_strs ns⟩
theorem TupG.strs {K : PySem.W.Frag} {mg : Str → Option Value} {x : Str} {ns : List Str} (hm : mg x = some (.ref (He.ga K x))) (h : (He.tupB K x (ns.map He.Dv.str) && tupN K x) = true) : TupG K mg x (ns.map Dt.str) := by
  obtain ⟨h, h2⟩ := He.ba h
  refine ⟨_, hm, fun I => ⟨_, ns.map V.str, rfl, ?_, rps_strs ns⟩, tupN_ok h2⟩
  have z := He.tupB_ok h I
  rw [List.map_map] at z
  exact z
theorem TupG.ints {K : PySem.W.Frag} {mg : Str → Option Value} {x : Str} {ns : List Int} (hm : mg x = some (.ref (He.ga K x))) (h : (He.tupB K x (ns.map He.Dv.int) && tupN K x) = true) : TupG K mg x (ns.map Dt.int) := by
  obtain ⟨h, h2⟩ := He.ba h
  refine ⟨_, hm, fun I => ⟨_, ns.map V.int, rfl, ?_, Rps.of_ints ns⟩, tupN_ok h2⟩
  have z := He.tupB_ok h I
  rw [List.map_map] at z
  exact z
section
variable {X : Cx} {W : WX} {e : Expr} {es : List Expr} {Te : TE2} {TA : TA2} {pos : Pos}
theorem e_globT {x : Str} {ds : List Dt} (hm : TupG X.K X.mg x ds) (hg : Gl X x := by rfl) (hd : (x == ("__debug__" : Str)) = false := by decide) : E2 X W (.Name x pos) (dC (.tup ds)) := ⟨fun _ _ _ _ _ h q => h _ _ q, by
  obtain ⟨a, hm, r, _⟩ := hm
  exact ⟨_, pe_glob (v := .ref a) hg hm rfl hd, fun x ds S σ H Q h q => q _ H h.refl (r _)⟩⟩
/-- t.index(x), t a tuple of the module, of strings -/
def dTIndex (ys : List Str) (Te : TE2) : TE2 := fun x ds S Q => Te x ds S fun d S1 => ∃ (k : Str) (j : Nat), d = .str k ∧ ys[j]? = some k ∧ (∀ m, m < j → ys[m]? ≠ some k) ∧ Q (.int (j : Int)) S1
theorem e_tindex {x : Str} {ys : List Str} {apos cpos p : Pos} (hm : TupG X.K X.mg x (ys.map Dt.str)) (ha : E2 X W e Te) (hg : Gl X x := by rfl) (hd : (x == ("__debug__" : Str)) = false := by decide)
    (hbase : attributeBase (.Name x p) "index" X.env (eval (.Name x p) X.env) = eval (.Name x p) X.env := by rfl)
    (hfew : ((backTo cpos (starEach [e] X.env)).all (fun x => !x.1) && (backToKw cpos (keywordEach [] X.env)).all (fun x => x.1.isSome)
      && decide ([e].length + ([] : List Keyword).length + (if ([] : List Keyword).isEmpty then 0 else 1) < 30)) = true := by rfl)
    (hline : (apos.endLine == cpos.line) = true := by rfl) (hs : starEach [e] X.env = (false, eval e X.env) :: starEach [] X.env := by rfl) (hplain : (backTo cpos (starEach [] X.env)).any (·.1) = false := by rfl) :
    E2 X W (.Call (.Attribute (.Name x p) "index" apos) [e] [] cpos) (dTIndex ys Te) := ⟨fun x ds S Q Q' h p => ha.mono x ds S _ _ (fun d S1 ⟨k, j, e, h1, h2, q⟩ => ⟨k, j, e, h1, h2, h _ _ q⟩) p, by
  obtain ⟨a, hm, r, o, ko, kc, kd⟩ := hm
  obtain ⟨t, pt, rt⟩ := ha.run
  refine ⟨_, pe_bm PySem.F.plainAttrs_tuple PySem.F.slot_tuple_index PySem.F.type_tuple_index mt_tup_index (pe_glob (v := .ref a) hg hm rfl hd) (pa_cons pt pa_nil hs) hbase hfew hline hs hplain, fun x ds S σ H Q h q => ?_⟩
  refine ⟨.inr (.inl ⟨rfl, o, ko, kc, kd⟩), ?_⟩
  refine rt x ds S σ H _ h (ha.mono x ds S _ _ (fun d S1 ⟨k, j, e, h1, h2, q⟩ v H1 s1 r1 => ?_) q)
  subst e
  cases (show v = _ from r1)
  obtain ⟨b, xs, e2, k1, k2⟩ := r (wo S1 H1)
  cases e2
  have ex := k2.strs
  subst ex
  exact ⟨a, ys, k, j, rfl, rfl, sqT_mono wo_le k1, h1, h2, q _ H1 s1 rfl⟩⟩
end
/-! ### what the head says, and one thing more -/
def obsE (n : Nat) (fa : List He.Fa) (fn : List He.DefD) (ex : PySem.W.Frag → Bool) (g : Addr → Option Obj) : He.AlD × Bool := (He.obsD fa fn (He.frG g (He.asD g n)), ex (He.frG g (He.asD g n)))
def hookE (n : Nat) (fa : List He.Fa) (fn : List He.DefD) (ex : PySem.W.Frag → Bool) : PySem.W.Hook where
  α := He.AlD × Bool
  obs := fun s => obsE n fa fn ex s.heap.get?
  val := fun _ => (He.valD fn, true)
  says := fun _ h => ∃ K : PySem.W.Frag, K.In h ∧ He.SaysD fa fn K ∧ ex K = true
  of := fun _ _ e => ⟨_, He.frG_in, congrArg (fun z : He.AlD × Bool => z.1) e, congrArg (fun z : He.AlD × Bool => z.2) e⟩
  keeps := fun _ _ _ ⟨K, hK, c⟩ k => ⟨K, PySem.W.Frag.In.keeps hK k, c⟩
theorem obsE_eq {n : Nat} {fa : List He.Fa} {fn : List He.DefD} {ex : PySem.W.Frag → Bool} {g : Addr → Option Obj} {s : Shared} (h : ∀ a, g a = s.heap.get? a) : obsE n fa fn ex g = (hookE n fa fn ex).obs s := by
  have e : g = s.heap.get? := funext h
  rw [e] <;> rfl
end Sc

/-! try: .. except X as e: .. -/
namespace Sc
open PySem PySem.Spec PyProof.Rows L2 Sm
section
variable {X : Cx} {W : WX} {e : Expr} {es : List Expr} {Te : TE2} {TA : TA2} {pos : Pos}
/-- what the clause wishes of an exception of the body -/
def hTry (M : Addr → Option Bool) (ok : Addr → Prop) (i : Nat) (U : Addr → Addr → TS2) (x : XK2) (D : Ends2) : XK2 := fun C ds S => ∃ b, M C = some b ∧ (b = true → ok C ∧ ∀ a, S a = none → U C a (fun _ _ _ => False) { nx := fun ds2 S2 => D.nx (ds2.set i none) S2, rt := D.rt, bk := fun ds2 S2 => D.bk (ds2.set i none) S2, ct := fun ds2 S2 => D.ct (ds2.set i none) S2 } (ds.set i (some (.ref a))) S) ∧ (b = false → x C ds S)
/-- M: does the clause take the class; T: the body, U: the suite, by the class and where the exception lies -/
def dTry (M : Addr → Option Bool) (ok : Addr → Prop) (i : Nat) (T : TS2) (U : Addr → Addr → TS2) : TS2 := fun x D ds S => ∃ x' : XK2, (∀ C ds' S', x' C ds' S' → hTry M ok i U x D C ds' S') ∧ T x' D ds S
/-- a reading by its data -/
def cS (K : PySem.W.Frag) (W : WX) (T : TS2) : TS := fun D σ H => ∃ x ds S, Here K W x ds S σ H ∧ T x (upD K S H D) ds S
theorem B2.canon {sts : List Stmt} {T : TS2} (h : B2 X W sts T) : PSs X sts (cS X.K W T) := by
  obtain ⟨t, p, r⟩ := h.run
  exact ⟨fun pins s σ H D I ⟨x, ds, S, hh, q⟩ => p.run pins s σ H D I (r x ds S σ H D hh q)⟩
theorem Rs.unset {K : PySem.W.Frag} {I : Hp} {ds : Ds} {σ : L2.St} {i : Nat} (h : Rs K I ds σ) : Rs K I (ds.set i none) (σ.set i none) := ⟨by rw [List.length_set, List.length_set]; exact h.1, fun j d e => by
  by_cases hj : i = j
  · subst hj
    rw [List.getElem?_set] at e
    split at e
    · split at e <;> cases e
    · rename_i hne
      exact absurd rfl hne
  · rw [List.getElem?_set_ne hj] at e ⊢
    exact h.2 j d e⟩
theorem takes0N {X : Cx} : L2N.Takes X (fun _ _ _ _ => False) := fun _ _ ⟨_, _, _, _, _, _, _, _, _, _, _, _, _, _, _, _, z⟩ => z.elim
theorem s_try {M : Addr → Option Bool} {ok : Addr → Prop} {i : Nat} {T : TS2} {U : Addr → Addr → TS2} {x n : Str} {c : Value} {body suite : List Stmt} {b₀ : Stmt} {np pos' : Pos}
    (hp : PassesOwn (model X.prog X.w) X.A X.env X.xe) (hN : X.N.Nodup) (hc : Names X x c) (tk : L2N.Takes X W) (hM : ∀ C b, M C = some b → PySem.W.exmOne X.K (.ref C) c = some b)
    (hb : ∀ (W' : WX) (pn : List (Addr × Obj)) (xe : Value → Shared → Prop), L2N.Takes (X.tr pn xe) W' → PassesOwn (model X.prog X.w) X.A X.env xe → B2 (X.tr pn xe) W' body T)
    (hsu : ∀ (a : Addr) (oe : Obj) (C : Addr) (pn : List (Addr × Obj)), ok C → L2N.Zn (.ref C) none oe → (∃ vs, oe.data = .fields vs) → B2 (X.suite a ((a, oe) :: pn)) W0 (b₀ :: suite) (U C a))
    (hi : X.N[i]? = some n := by rfl) (hs : X.stack = X.env :: X.outer := by rfl) (hf : X.env.frame = some X.env.locals := by rfl) (hln : X.env.kindOf n = some .local := by rfl) :
    S2 X W (.Try body [.ExceptHandler (some (.Name x np)) (some n) (b₀ :: suite) pos'] [] [] pos) (dTry M ok i T U) := by
  have tm := (hb W0 X.pn X.xe takes0N hp).mono
  have um : ∀ C a, ok C → ∀ x ds S D D', Ends2.Le D D' → U C a x D ds S → U C a x D' ds S := fun C a h => (hsu a { cls := .ref C, dict := none, data := .fields #[.none, .none, .none] } C [] h ⟨rfl, rfl, fun vs e => by cases e; rfl⟩ ⟨_, rfl⟩).mono
  have hm : ∀ x D D', Ends2.Le D D' → ∀ C ds S, hTry M ok i U x D C ds S → hTry M ok i U x D' C ds S := fun x D D' h C ds S ⟨b, h1, h2, h3⟩ => ⟨b, h1, fun hb => ⟨(h2 hb).1, fun a ha => um C a (h2 hb).1 _ _ _ _ _ (show Ends2.Le { nx := fun ds2 S2 => D.nx (ds2.set i none) S2, rt := D.rt, bk := fun ds2 S2 => D.bk (ds2.set i none) S2, ct := fun ds2 S2 => D.ct (ds2.set i none) S2 } { nx := fun ds2 S2 => D'.nx (ds2.set i none) S2, rt := D'.rt, bk := fun ds2 S2 => D'.bk (ds2.set i none) S2, ct := fun ds2 S2 => D'.ct (ds2.set i none) S2 } from ⟨fun ds2 S2 q => h.nx _ S2 q, h.rt, fun ds2 S2 q => h.bk _ S2 q, fun ds2 S2 q => h.ct _ S2 q⟩) ((h2 hb).2 a ha)⟩, h3⟩
  refine ⟨fun x ds S D D' h ⟨x', h1, q⟩ => ⟨x', fun C ds' S' z => hm _ _ _ h _ _ _ (h1 C ds' S' z), tm _ _ _ _ _ h q⟩, ?_⟩
  refine ⟨_, L2N.ps_try_as (tb := fun W' => cS X.K W' T) (ts := fun a cls d D σ H => ∃ C, cls = .ref C ∧ d = none ∧ ok C ∧ cS X.K W0 (U C a) D σ H) hs hf hN hi hln hc tk (fun W' pn xe t p => (hb W' pn xe t p).canon) (fun a oe cls d pn hz hv => ?_), fun x ds S σ H D h ⟨x', h1, q⟩ => ?_⟩
  · constructor
    rintro pins s σ H D I ⟨C, rfl, rfl, hok, q⟩
    exact (hsu a oe C pn hok hz hv).canon.run pins s σ H D I q
  · refine ⟨x', ds, S, ⟨h.rs, h.wd, fun C ds' S' z σ' H' s' rs' => ?_⟩, tm _ _ _ _ _ (Ends2.Le.refl _) q⟩
    obtain ⟨b, m1, m2, m3⟩ := h1 C ds' S' z
    refine ⟨b, hM C b m1, fun hb a ha => ?_, fun hb => h.xe C ds' S' (m3 hb) σ' H' s' rs'⟩
    obtain ⟨hok, hu⟩ := m2 hb
    have hS : S' a = none := s'.wd.free ha
    refine ⟨C, rfl, rfl, hok, fun _ _ _ => False, ds'.set i (some (.ref a)), S', ⟨rs'.set rfl, s'.wd, fun _ _ _ z => z.elim⟩, ?_⟩
    refine um C a hok _ _ _ _ _ ⟨fun ds2 S2 q2 σ2 H2 s2 r2 => ?_, fun d S2 q2 => ?_, fun ds2 S2 q2 σ2 H2 s2 r2 => ?_, fun ds2 S2 q2 σ2 H2 s2 r2 => ?_⟩ (hu a hS)
    · exact q2 _ _ (s'.trans s2) r2.unset
    · exact q2.step s'
    · exact q2 _ _ (s'.trans s2) r2.unset
    · exact q2 _ _ (s'.trans s2) r2.unset
/-- isinstance(e, Y), e the exception that the suite holds, Y a class of the module -/
def dIsE (k : Addr → Option Bool) (C a : Addr) (i : Nat) : TE2 := fun _ ds S Q => ds[i]? = some (some (.ref a)) ∧ ∃ b, k C = some b ∧ Q (.bl b) S
theorem e_isE {X : Cx} {W : WX} {pos : Pos} {k : Addr → Option Bool} {C a D : Addr} {oe : Obj} {pn : List (Addr × Obj)} (i : Nat) {n y : Str} {p q r : Pos} (hC : ExcC X.K C) (hz : L2N.Zn (.ref C) none oe) (hf : ∃ vs, oe.data = .fields vs) (hk : ∀ b, k C = some b → PySem.W.kitOne X.K (.ref C) (.ref D) = some b)
    (hv : E2 (X.suite a ((a, oe) :: pn)) W (.Name n q) (dVar i)) (hm : X.mg "isinstance" = none) (hy : X.mg y = some (.ref D)) (hg : Gl X "isinstance" := by rfl) (hg2 : Gl X y := by rfl) (hd : (y == ("__debug__" : Str)) = false := by decide)
    (he1 : starEach [.Name n q, .Name y r] X.env = (false, eval (.Name n q) X.env) :: starEach [.Name y r] X.env := by rfl) (he2 : starEach [.Name y r] X.env = (false, eval (.Name y r) X.env) :: starEach [] X.env := by rfl) (hpl : (backTo pos (starEach [.Name y r] X.env)).any (·.1) = false := by rfl) :
    E2 (X.suite a ((a, oe) :: pn)) W (.Call (.Name "isinstance" p) [.Name n q, .Name y r] [] pos) (dIsE k C a i) := ⟨fun x ds S Q Q' h ⟨e, b, e2, z⟩ => ⟨e, b, e2, h _ _ z⟩, by
  obtain ⟨t, pt, rt⟩ := hv.run
  refine ⟨_, pe_callB (X := X.suite a ((a, oe) :: pn)) (call_isE hC hz.zc hf) hg hm (by decide +kernel) (pa_cons (X := X.suite a ((a, oe) :: pn)) pt (pa_cons (X := X.suite a ((a, oe) :: pn)) (pe_glob (X := X.suite a ((a, oe) :: pn)) (v := .ref D) hg2 hy rfl hd) pa_nil he2) he1) (by decide) (by decide) he1 hpl, fun x ds S σ H Q h ⟨e, b, e2, z⟩ => ?_⟩
  refine rt x ds S σ H _ h ⟨.ref a, e, fun v H1 s1 r1 => ?_⟩
  cases (show v = _ from r1)
  exact ⟨.ref D, .ref D, b, rfl, fun u hu => hu, hk b e2, z _ H1 s1 rfl⟩⟩
end
end Sc

/-! zip of two lists that do not change; what a clause takes -/
namespace Sc
open PySem PySem.Spec PyProof.Rows L2 Sm
section
variable {X : Cx} {W : WX} {e e' : Expr} {Te Tf : TE2} {pos : Pos}
/-- the pairs of zip -/
def zipD (xs ys : List Dt) : List Dt := List.zipWith (fun a b => .tup [a, b]) xs ys
theorem zipD_len {xs ys : List Dt} : (zipD xs ys).length = min xs.length ys.length := List.length_zipWith
theorem zipD_get {xs ys : List Dt} {i : Nat} {d : Dt} (h : (zipD xs ys)[i]? = some d) : ∃ a b, xs[i]? = some a ∧ ys[i]? = some b ∧ d = .tup [a, b] := by
  unfold zipD at h
  rw [List.getElem?_zipWith] at h
  cases e1 : xs[i]? with
  | none => rw [e1] at h; cases h
  | some a =>
    cases e2 : ys[i]? with
    | none => rw [e1, e2] at h; cases h
    | some b =>
      rw [e1, e2] at h
      exact ⟨a, b, rfl, rfl, (Option.some.inj h).symm⟩
def dZip (Te Tf : TE2) : TI2 := fun x ds S Q => Te x ds S fun d S1 => Tf x ds S1 fun e S2 => ∃ xs ys, d = .lst xs ∧ e = .lst ys ∧ Q (zipD xs ys) S2
theorem j_zip {elts : List Expr} {kk : Nat} {p tpos : Pos} (he : E2 X W e Te) (hf : E2 X W e' Tf) (hm : X.mg "zip" = none) (hg : Gl X "zip" := by rfl)
    (hs : starEach [e, e'] X.env = (false, eval e X.env) :: starEach [e'] X.env := by rfl) (hs2 : starEach [e'] X.env = (false, eval e' X.env) :: starEach [] X.env := by rfl) (hpl : (backTo pos (starEach [e'] X.env)).any (·.1) = false := by rfl) :
    J2 X W (.Tuple elts kk tpos) (.Call (.Name "zip" p) [e, e'] [] pos) (dZip Te Tf) := ⟨fun x ds S Q Q' h q => he.mono x ds S _ _ (fun d S1 q => hf.mono x ds S1 _ _ (fun e S2 ⟨xs, ys, e1, e2, q⟩ => ⟨xs, ys, e1, e2, h _ _ q⟩) q) q, by
  obtain ⟨t, pt, r⟩ := he.run
  obtain ⟨t', pt', r'⟩ := hf.run
  refine ⟨_, pi_zip hg hm (pa_cons pt (pa_cons pt' pa_nil hs2) hs) hs hpl, fun x ds S σ H R h q => r x ds S σ H _ h (he.mono x ds S _ _ (fun d S1 q v H1 s1 r1 => r' x ds S1 σ H1 _ (h.step s1) (hf.mono x ds S1 _ _ (fun d' S2 ⟨ds1, ds2, e1, e2, q2⟩ v' H2 s2 r2 => ?_) q)) q)⟩
  subst e1 e2
  obtain ⟨a, xs, e3, g1, g2⟩ := r1.mono s2.same
  obtain ⟨b, ys, e4, k1, k2⟩ := r2
  subst e3 e4
  refine ⟨a, b, xs, ys, rfl, sqL_mono wo_le g1, sqL_mono wo_le k1, q2 H2 _ (s1.trans s2) fun S3 H3 s3 => ?_⟩
  have g3 : SqL X.K H3 a xs := sqL_mono wo_le (sqL_mono s3.same g1)
  have k3 : SqL X.K H3 b ys := sqL_mono wo_le (sqL_mono s3.same k1)
  have gg := g2.mono s3.same
  have kk := k2.mono s3.same
  refine ⟨fun i hi => ?_, fun i hi => ⟨xs, ys, g3, k3, by rw [zipD_len] at hi; rw [g2.length, k2.length]; omega⟩, fun i v H' d hy hd => ?_⟩
  · rw [zipD_len] at hi
    have h1 : i < xs.length := by rw [g2.length]; omega
    have h2 : i < ys.length := by rw [k2.length]; omega
    exact ⟨xs, ys, xs[i], ys[i], g3, k3, List.getElem?_eq_getElem h1, List.getElem?_eq_getElem h2⟩
  · obtain ⟨T, y, z, ev, hT, eH, hv, hw⟩ := hy
    subst ev eH
    obtain ⟨c, c', hc, hc', ed⟩ := zipD_get hd
    subst ed
    obtain ⟨u, u1, u2⟩ := gg.get hc
    obtain ⟨w, w1, w2⟩ := kk.get hc'
    cases (hv xs g3).symm.trans u1
    cases (hw ys k3).symm.trans w1
    have sm := new_same (o := .tup [y, z]) s3.wd hT
    exact ⟨⟨sm, new_wd s3.wd hT⟩, T, [y, z], rfl, SqT.of (new_at s3.wd hT), ⟨_, _, rfl, u2.mono sm, ⟨_, _, rfl, w2.mono sm, rfl⟩⟩⟩⟩
end
/-! ### which classes a clause takes -/
/-- as a list tells -/
def lk (l : List (Addr × Bool)) (C : Addr) : Option Bool := (l.find? fun p => p.1 == C).map (·.2)
theorem lk_mem {l : List (Addr × Bool)} {C : Addr} {b : Bool} (h : lk l C = some b) : (C, b) ∈ l := by
  unfold lk at h
  cases e : l.find? (fun p => p.1 == C) with
  | none => rw [e] at h; cases h
  | some p =>
    rw [e] at h
    have h1 := List.find?_some e
    have h2 : p.2 = b := Option.some.inj h
    have h3 : p.1 = C := by simpa using h1
    have := List.mem_of_find?_eq_some e
    rw [← h2, ← h3]
    exact this
def okL (l : List (Addr × Bool)) (C : Addr) : Prop := ∃ b, lk l C = some b
theorem lk_exm {K : PySem.W.Frag} {l : List (Addr × Bool)} {c : Value} (h : ∀ p, p ∈ l → PySem.W.exmOne K (.ref p.1) c = some p.2) : ∀ C b, lk l C = some b → PySem.W.exmOne K (.ref C) c = some b := fun C b e => h _ (lk_mem e)
theorem lk_kit {K : PySem.W.Frag} {l : List (Addr × Bool)} {D : Addr} (h : ∀ p, p ∈ l → PySem.W.kitOne K (.ref p.1) (.ref D) = some p.2) : ∀ C b, lk l C = some b → PySem.W.kitOne K (.ref C) (.ref D) = some b := fun C b e => h _ (lk_mem e)
theorem lk_exc {K : PySem.W.Frag} {l : List (Addr × Bool)} (h : ∀ p, p ∈ l → ExcC K p.1) : ∀ C, okL l C → ExcC K C := fun C ⟨_, e⟩ => h _ (lk_mem e)
theorem all1 {α : Type} {P : α → Prop} {a : α} (h : P a) : ∀ p, p ∈ [a] → P p := fun p hp => by rw [List.mem_singleton.mp hp]; exact h
theorem allc {α : Type} {P : α → Prop} {a : α} {l : List α} (h : P a) (t : ∀ p, p ∈ l → P p) : ∀ p, p ∈ a :: l → P p := fun p hp => by
  rcases List.mem_cons.mp hp with e | hp
  · rw [e]
    exact h
  · exact t p hp
/-- ExcC, told by a computation -/
def excB (K : PySem.W.Frag) (D : Addr) : Bool := decide (PySem.W.findIn K (.ref D) "__getattribute__" = some (some (.builtin "BaseException.__getattribute__"))) && (decide (PySem.W.findIn K (.ref D) "__getattr__" = some none) && (decide (PySem.W.subIn K (.ref D) (.type "BaseException") = some true) && (PySem.W.hasDictIn K D &&
  (decide (PySem.W.findIn K (.ref D) "__class__" = some (some (.builtin "object.__class__"))) && (decide (PySem.W.specialIn K (.builtin "object.__class__") "__get__" = some (some (.builtin "getset_descriptor.__get__"))) && (decide (PySem.W.takesIn K (.builtin "object.__class__") = some true) && decide (PySem.W.mroIn K D (.type "object") = some true)))))))
theorem excB_ok {K : PySem.W.Frag} {D : Addr} (h : excB K D = true) : ExcC K D := by
  unfold excB at h
  simp only [Bool.and_eq_true, decide_eq_true_eq] at h
  obtain ⟨h1, h2, h3, h4, h5, h6, h7, h8⟩ := h
  exact ⟨h1, h2, h3, h4, h5, h6, h7, h8⟩
def exmB (K : PySem.W.Frag) (x y : Str) (b : Bool) : Bool := decide (PySem.W.exmOne K (.ref (He.ga K x)) (.ref (He.ga K y)) = some b)
def kitB2 (K : PySem.W.Frag) (x y : Str) (b : Bool) : Bool := decide (PySem.W.kitOne K (.ref (He.ga K x)) (.ref (He.ga K y)) = some b)
end Sc

/-! a list's end, a zip's end while an exception is handled -/
namespace Sc
open PySem PySem.Spec PyProof.Rows L2 Sm HotX
section
variable {prog : Program} {w : World} {A : Around} {E : Value → Shared → Prop} {s : Shared}
theorem hot_keep {x1 it : Addr} {h h' : Heap} (hot : HotAt A x1 h) (hx : x1 ≠ it) (k : Heap.ExtBut it h h') : HotAt A x1 h' := by
  obtain ⟨e, o, vs, e1, e2, e3⟩ := hot
  exact ⟨e, o, vs, k x1 o hx e1, e2, e3⟩
/-- the items are at an end -/
theorem hot_next {x1 it l : Addr} {k : Nat} {xs : Array Value} {Q : Value → Shared → Prop} (hot : HotAt A x1 s.heap) (hxi : x1 ≠ it) (g1 : s.heap.IsListIter it l k) (g2 : s.heap.IsList l xs) (g3 : xs[k]? = none)
    (q : ∀ h' e, Heap.ExtBut it s.heap h' → (∃ o, h'.get? e = some o ∧ o.cls = .type "StopIteration") → E (.ref e) { s with heap := h' }) : wpAny (model prog w) A (Builtin.SmallTypes.nextOf (.ref it)) Q E s := by
  obtain ⟨ob, b1, b2, b3⟩ := id g1
  obtain ⟨ol, c1, _, nl, c2⟩ := g2
  unfold Builtin.SmallTypes.nextOf
  refine wpAny_bind (wpAny_callSpecial?_slot (name := Str.ofString "__next__") g1.typeIs slot_listiter_next (wpAny_call_entry slot_listiter_next g1.typeIs entry_listiter_next ?_ (args_listiter_next _)))
  show wpAny _ _ (field (.ref it) 0 >>= _) _ _ s
  refine wpAny_bind (wpAny_field b1 b3 (x := .ref l) rfl ?_)
  show wpAny _ _ (if (Value.ref l == Value.none) = true then _ else _) _ _ s
  rw [if_neg (show ¬ ((Value.ref l == Value.none) = true) by exact Bool.false_ne_true)]
  show wpAny _ _ (field (.ref it) 1 >>= _) _ _ s
  refine wpAny_bind (wpAny_field b1 b3 (x := .int k 0) rfl ?_)
  show wpAny _ _ (seqItems? (.ref l) >>= _) _ _ s
  refine wpAny_bind (wpAny_seqItems c1 c2 ?_)
  simp only [Int.toNat_natCast, g3]
  refine wpAny_bind (wpAny_rule (wpAny_bind (wpAny_setField b1 b3 (by simp) ?_)))
  show wpAny _ _ (newExc (.type "StopIteration") [] >>= _) _ _ _
  refine wpAny_bind ?_
  simp only [newExc, newTuple]
  refine wpAny_bind (wpAny_newObj_type ?_ (by size_fits))
  refine wpAny_bind (m := firstArgMember _ _) (wpAny_of_eq (a := Value.none) (by first | rfl | (simp only [firstArgMember]; rfl)) ?_)
  refine wpAny_newObj_type ?_ (by size_fits)
  obtain ⟨hh, o1, vs1, d1, d2, d3⟩ := hot
  have u0 := (Heap.SameBut.update (f := Obj.mapFields (·.setIfInBounds 0 .none)) (h := s.heap) (a := it)).extBut x1 o1 hxi d1
  refine raiseNew_hot (x1 := x1) ⟨hh, o1, vs1, Heap.get?_push_of_some _ (Heap.get?_push_of_some _ u0), d2, d3⟩ (Nat.ne_of_lt (Heap.lt_size (Heap.get?_push_of_some _ u0))) (Heap.get?_push_size _ rfl) rfl (by first | (simp; done) | (simp; omega) | (simp only [Array.size_append]; simp; omega)) ?_
  refine q _ _ (fun b o hb e => ?_) ⟨_, Heap.get?_update_self _ (Heap.get?_push_size _ rfl) rfl, rfl⟩
  have e' := (Heap.SameBut.update (f := Obj.mapFields (·.setIfInBounds 0 .none)) (h := s.heap) (a := it)).extBut b o hb e
  rw [Heap.get?_update_other _ _ (Nat.ne_of_gt (Heap.lt_size (Heap.get?_push_of_some _ e')))]
  exact Heap.get?_push_of_some _ (Heap.get?_push_of_some _ e')
/-- the first list is at its end -/
theorem hot_zip {x1 z TI TO i1 i2 l1 : Addr} {k1 : Nat} {xs : Array Value} {Q : Option Value → Shared → Prop} (hot : HotAt A x1 s.heap) (z1 : z ≠ i1) (z2 : l1 ≠ z) (hz : IsZip s.heap z TI TO .none) (hTI : IsPair s.heap TI (.ref i1) (.ref i2))
    (h1 : s.heap.IsListIter i1 l1 k1) (hl1 : s.heap.IsList l1 xs) (hx : xs[k1]? = none)
    (q : ∀ h', (∀ c o, c ≠ z → c ≠ i1 → s.heap.get? c = some o → h'.get? c = some o) → Q none { s with heap := h' }) : wpAny (model prog w) A (pyNext (.ref z)) Q E s := by
  have xz : x1 ≠ z := fun e => by
    obtain ⟨_, o, vs, e1, e2, e3⟩ := hot
    subst e
    cases hz.symm.trans e1
    cases e2
    cases e3
  have xi : x1 ≠ i1 := fun e => by
    obtain ⟨_, o, vs, e1, e2, e3⟩ := hot
    obtain ⟨o', f1, _, f3⟩ := h1
    subst e
    cases f1.symm.trans e1
    cases f3.symm.trans e2
    cases e3
  have hT : s.TypeIs (.ref z) "zip" := ⟨_, hz, rfl⟩
  unfold pyNext
  refine wpAny_bind (wpAny_attempt (wpAny_callSpecial?_slot (name := Str.ofString "__next__") hT F.slot_zip_next (wpAny_call_entry F.slot_zip_next hT F.entry_zip_next ?_ (F.args_zip_next_1 _))))
  show wpAny _ _ (field (.ref z) 2 >>= _) _ _ _
  refine wpAny_bind (wpAny_field hz rfl (x := .bool false) rfl ?_)
  show wpAny _ _ (field (.ref z) 3 >>= _) _ _ _
  refine wpAny_bind (wpAny_field hz rfl (x := .ref TI) rfl (?_ : wpAny _ _ _ _ _ _))
  refine wpAny_bind (wpAny_seqItems hTI rfl ?_)
  show wpAny _ _ (Builtin.SmallTypes.ownedTupleIsFree (.ref z) >>= _) _ _ _
  refine wpAny_bind ?_
  unfold Builtin.SmallTypes.ownedTupleIsFree
  refine wpAny_bind (wpAny_field hz rfl (x := .none) rfl (wpAny_pure ?_))
  simp only [if_true]
  refine wpAny_bind (wpAny_rule ?_)
  refine wpAny_bind (wpAny_field hz rfl (x := .ref TO) rfl ?_)
  refine wpAny_bind (wpAny_setField_rec hz (by simp) fun p1 pz ps => ?_)
  replace pz : IsZip p1 z TI TO .ellipsis := pz
  refine wpAny_bind ?_
  simp only [List.zipIdx_cons, List.zipIdx_nil, List.forIn_cons, List.forIn_nil]
  refine wpAny_bind (wpAny_bind (wpAny_onRaise ?_))
  show wpAny _ _ (Builtin.SmallTypes.nextOf (.ref i1) >>= _) _ _ _
  have hot1 : HotAt A x1 p1 := hot_keep hot xz ps.extBut
  refine wpAny_bind (hot_next (A := A.in1) (show HotAt A.in1 x1 p1 from hot1) xi (h1.extBut ps.extBut z1.symm) (hl1.extBut ps.extBut z2) hx fun p2 e k2 he => ?_)
  obtain ⟨oe, e1, e2⟩ := he
  have pz2 : IsZip p2 z TI TO .ellipsis := k2 _ _ z1 pz
  have ez : e ≠ z := fun x => by
    subst x
    rw [pz2] at e1
    cases e1
    simp at e2
  refine wpAny_setField_rec pz2 (by simp) fun p3 _ k3 => ?_
  refine wpAny_bind (wpAny_isInstance (T := "StopIteration") (b := true) ⟨oe, k3.extBut _ _ ez e1, e2⟩ isSubtype_stop ?_)
  exact wpAny_pure (q p3 fun c o c1 c2 x => k3.extBut _ _ c1 (k2 _ _ c2 (ps.extBut _ _ c1 x)))
/-- a tuple's items are at an end -/
theorem hot_tup {x1 it t : Addr} {k : Nat} {xs : Array Value} {Q : Option Value → Shared → Prop} (hot : HotAt A x1 s.heap) (g1 : IsTupIter s.heap it t k) (g2 : IsTup s.heap t xs) (g3 : xs[k]? = none)
    (q : ∀ h', Heap.ExtBut it s.heap h' → Q none { s with heap := h' }) : wpAny (model prog w) A (pyNext (.ref it)) Q E s := by
  obtain ⟨ob, b1, b2, b3⟩ := id g1
  obtain ⟨ol, c1, _, nl, c2⟩ := g2
  have hxi : x1 ≠ it := fun e => by
    obtain ⟨_, o, vs, e1, e2, e3⟩ := hot
    subst e
    cases b1.symm.trans e1
    cases b3.symm.trans e2
    cases e3
  unfold pyNext
  refine wpAny_bind (wpAny_attempt (wpAny_callSpecial?_slot (name := Str.ofString "__next__") g1.typeIs slot_tupleiter_next (wpAny_call_entry slot_tupleiter_next g1.typeIs entry_tupleiter_next ?_ (args_tupleiter_next _))))
  show wpAny _ _ (field (.ref it) 0 >>= _) _ _ s
  refine wpAny_bind (wpAny_field b1 b3 (x := .ref t) rfl ?_)
  show wpAny _ _ (if (Value.ref t == Value.none) = true then _ else _) _ _ s
  rw [if_neg (show ¬ ((Value.ref t == Value.none) = true) by exact Bool.false_ne_true)]
  show wpAny _ _ (field (.ref it) 1 >>= _) _ _ s
  refine wpAny_bind (wpAny_field b1 b3 (x := .int k 0) rfl ?_)
  show wpAny _ _ (seqItems? (.ref t) >>= _) _ _ s
  refine wpAny_bind (wpAny_seqItems c1 c2 ?_)
  simp only [Int.toNat_natCast, g3]
  refine wpAny_bind (wpAny_rule (wpAny_bind (wpAny_setField b1 b3 (by simp) ?_)))
  show wpAny _ _ (newExc (.type "StopIteration") [] >>= _) _ _ _
  refine wpAny_bind ?_
  simp only [newExc, newTuple]
  refine wpAny_bind (wpAny_newObj_type ?_ (by size_fits))
  refine wpAny_bind (m := firstArgMember _ _) (wpAny_of_eq (a := Value.none) (by first | rfl | (simp only [firstArgMember]; rfl)) ?_)
  refine wpAny_newObj_type ?_ (by size_fits)
  obtain ⟨hh, o1, vs1, d1, d2, d3⟩ := hot
  have u0 := (Heap.SameBut.update (f := Obj.mapFields (·.setIfInBounds 0 .none)) (h := s.heap) (a := it)).extBut x1 o1 hxi d1
  refine raiseNew_hot (x1 := x1) ⟨hh, o1, vs1, Heap.get?_push_of_some _ (Heap.get?_push_of_some _ u0), d2, d3⟩ (Nat.ne_of_lt (Heap.lt_size (Heap.get?_push_of_some _ u0))) (Heap.get?_push_size _ rfl) rfl (by first | (simp; done) | (simp; omega) | (simp only [Array.size_append]; simp; omega)) ?_
  refine wpAny_bind (wpAny_isInstance (T := "StopIteration") (b := true) ⟨_, Heap.get?_update_self _ (Heap.get?_push_size _ rfl) rfl, rfl⟩ isSubtype_stop ?_)
  refine wpAny_pure (q _ fun b o hb e => ?_)
  have e' := (Heap.SameBut.update (f := Obj.mapFields (·.setIfInBounds 0 .none)) (h := s.heap) (a := it)).extBut b o hb e
  rw [Heap.get?_update_other _ _ (Nat.ne_of_gt (Heap.lt_size (Heap.get?_push_of_some _ e')))]
  exact Heap.get?_push_of_some _ (Heap.get?_push_of_some _ e')
/-- a tuple goes to as many targets -/
theorem hot_unpack {x1 t : Addr} {xs : Array Value} {ts : List (Bool × (Value → Sem Unit))} {Q : Unit → Shared → Prop} (hot : HotAt A x1 s.heap) (ht : IsTup s.heap t xs) (hn : ts.length = xs.size) (hs : ts.findIdx? (·.1) = none)
    (q : ∀ h', Heap.ExtBut s.heap.objs.size s.heap h' → wpAny (model prog w) A (assignInOrder (ts.map (·.2)) xs.toList) Q E { s with heap := h' }) : wpAny (model prog w) A (unpack (.ref t) ts) Q E s := by
  have low : t < s.heap.objs.size := let ⟨_, e, _⟩ := ht; Heap.lt_size e
  have hx1 : x1 < s.heap.objs.size := let ⟨_, _, _, e, _⟩ := hot; Heap.lt_size e
  unfold unpack
  rw [hn, hs]
  refine wpAny_bind (wpAny_holding ?_)
  unfold unpackItems
  refine wpAny_bind ?_
  unfold notIterableAtAll
  refine wpAny_bind (wpAny_specialOf ht.typeIs slot_tuple_iter.lookup (wpAny_pure ?_))
  simp only [Bool.false_eq_true, if_false]
  refine wpAny_bind (wpAny_holding (iter_tuple ht ?_))
  refine wpAny_bind (wpAny_holding (draw_tuple (Nat.ne_of_lt low) xs.size 0 _ _ ⟨_, Heap.get?_push_size _ rfl, rfl, rfl⟩ (ht.push _) (by omega) fun p1 j1 k1 => ?_))
  rw [show List.take xs.size (List.drop 0 xs.toList) = xs.toList by rw [List.drop_zero]; exact List.take_of_length_le (by simp)]
  rw [if_neg (by simp)]
  have hot1 : HotAt A x1 p1 := by
    obtain ⟨hh, o, vs, e1, e2, e3⟩ := hot
    exact ⟨hh, o, vs, k1.extBut _ _ (Nat.ne_of_lt hx1) (Heap.get?_push_of_some _ e1), e2, e3⟩
  refine wpAny_bind (wpAny_holding (hot_tup hot1 j1 ((ht.push _).extBut k1.extBut (Nat.ne_of_lt low)) (by simp) fun p2 k2 => ?_))
  simp only [Option.isSome_none, Bool.false_eq_true, if_false]
  exact wpAny_pure (q p2 fun b o hb e => k2 b o hb (k1.extBut b o hb (Heap.get?_push_of_some _ e)))
end
end Sc

/-! zip and a comprehension while an exception is handled -/
namespace Sc
open PySem PySem.Spec PyProof.Rows L2 Sm HotX
/-- every state of the context has the handled exception, unchained -/
def HotE (X : Cx) : Prop := ∀ pins σ H s, Inv X pins σ H s → ∃ x1, HotAt X.A x1 s.heap
theorem hotE_of {X : Cx} (c : L2H.HotC X) : HotE X := fun pins σ H s I => c.at I
/-- a tuple goes to its targets -/
theorem pg_tupH {X : Cx} {pos : Pos} {es : List Expr} {k : Nat} {t : TGs} {n : Nat} (hot : HotE X) (h : PGs X es t) (hn : (assignEach es X.env).length = n := by rfl) (hst : (assignEach es X.env).findIdx? (·.1) = none := by rfl) : PG X (.Tuple es k pos) (gTup X.K n t) := by
  constructor
  intro pins s σ H v u Q I r ⟨a, xs, e1, hq, hl, hw⟩
  subst e1
  cases r
  obtain ⟨its, rv, ht, hz⟩ := I.tuple hq
  obtain ⟨x1, hx⟩ := hot _ _ _ _ I
  rw [PyProof.Rows.assign_Tuple]
  refine wpAny_bind (wpAny_standAt (hot_unpack hx ht (by simp [hn, ← hl, rv.length]) hst fun g gk => ?_))
  exact h.run pins _ σ H xs _ Q (I.kept (t' := s.toks) fun b o e => gk b o (Nat.ne_of_lt (Heap.lt_size e)) e) (by simpa using rv) hw
/-- what is needed of an iterator -/
structure HTurn (P : Program) (w : World) (K : PySem.W.Frag) (tg : Expr) (J : It) (fp : List Addr) (z : Addr) (tn : Nat → Heap → Prop) : Prop where
  there : ∀ {i h}, tn i h → ∀ b, b ∈ fp → ∃ o, h.get? b = some o ∧ ∀ v, o.data ≠ .cell v
  kept : ∀ {i h h'}, tn i h → (∀ b, b ∈ fp → ∀ o, h.get? b = some o → h'.get? b = some o) → tn i h'
  own : ∀ (A : Around) (i : Nat) (s : Shared) (Q E : Value → Shared → Prop), tn i s.heap → Q (.ref z) s → wpAny (model P w) A (pyIter (.ref z)) Q E s
  more : ∀ (X : Cx), X.prog = P → X.w = w → X.K = K → ∀ (i : Nat) pins s σ H (E : Value → Shared → Prop), Inv X pins σ H s → (∀ b, b ∈ fp → FpOk X pins H b) → tn i s.heap → J.go i H →
    wpAny (model P w) X.A (pyNext (.ref z)) (fun r s1 => ∃ u, r = some u ∧ wpAny (model P w) X.A (letOwnedTupleGo tg (.ref z) u) (fun _ s2 => ∃ x H', Inv X pins σ H' s2 ∧ RelV x u ∧ J.yld i H x H' ∧ tn (i + 1) s2.heap ∧ ∀ b, b ∈ fp → H' b = none) E s1) E s
  fini : ∀ (X : Cx), X.prog = P → X.w = w → X.K = K → HotE X → ∀ (i : Nat) pins s σ H (E : Value → Shared → Prop), Inv X pins σ H s → (∀ b, b ∈ fp → FpOk X pins H b) → tn i s.heap → J.stop i H →
    wpAny (model P w) X.A (pyNext (.ref z)) (fun r s1 => r = none ∧ Inv X pins σ H s1) E s
/-- two lists side by side, the first one ends it -/
def ItzA (K : PySem.W.Frag) (a b : Addr) : It := { Itz K a b with stop := fun i H => ∃ xs : List V, SqL K H a xs ∧ xs.length ≤ i }
/-- how the zip stands at a turn -/
def zst (a b z TI TO i1 i2 : Addr) (i : Nat) (h : Heap) : Prop := IsZip h z TI TO .none ∧ IsPair h TI (.ref i1) (.ref i2) ∧ (∃ x y, IsPair h TO x y) ∧ h.IsListIter i1 a i ∧ h.IsListIter i2 b i
theorem mem5 {P : Addr → Prop} {a b c d e x : Addr} (h : x ∈ [a, b, c, d, e]) (h1 : P a) (h2 : P b) (h3 : P c) (h4 : P d) (h5 : P e) : P x := by
  simp only [List.mem_cons, List.not_mem_nil, or_false] at h
  rcases h with rfl | rfl | rfl | rfl | rfl <;> assumption
theorem hturn_zip {P : Program} {w : World} {K : PySem.W.Frag} {elts : List Expr} {kk : Nat} {tpos : Pos} {a b z TI TO i1 i2 : Addr} (D : ZipApart z TI TO i1 i2 a b) : HTurn P w K (.Tuple elts kk tpos) (ItzA K a b) [z, TI, TO, i1, i2] z (zst a b z TI TO i1 i2) where
  there := fun {i h} st c hc => (turn_zip (P := P) (w := w) (K := K) (elts := elts) (kk := kk) (tpos := tpos) D).obj i h st c hc
  kept := fun {i h h'} st k => (turn_zip (P := P) (w := w) (K := K) (elts := elts) (kk := kk) (tpos := tpos) D).keep i h h' st k
  own := fun A i s Q E st q => wpAny_pyIter_zip st.1 q
  more := by
    rintro X rfl rfl rfl i pins s σ H E I ff ⟨z1, z2, ⟨v1, v2, z3⟩, n1, n2⟩ ⟨xs, ys, x, y, l1, l2, p1, p2⟩
    obtain ⟨cs, c1, c2, _⟩ := I.list l1
    obtain ⟨ds, d1, d2, _⟩ := I.list l2
    obtain ⟨u1, a1, a2⟩ := c1.get p1
    obtain ⟨u2, b1, b2⟩ := d1.get p2
    have low : ∀ c, c ∈ [z, TI, TO, i1, i2] → c < s.heap.objs.size := fun c hc => mem5 (P := fun c => c < s.heap.objs.size) hc (Heap.lt_size z1) (Heap.lt_size z2) (Heap.lt_size z3) (let ⟨_, e, _⟩ := n1; Heap.lt_size e) (let ⟨_, e, _⟩ := n2; Heap.lt_size e)
    refine wpAny_pyNext_zip_item D z1 z2 z3 n1 n2 c2.isList d2.isList (x := u1) (y := u2) (by simpa using a1) (by simpa using b1) fun g gz gT g1 g2 gP gs gk => ⟨_, rfl, wpAny_letOwnedTupleGo_zip (s := { s with heap := g }) gz fun g' gz' sb => ?_⟩
    have tup : g'.get? s.heap.objs.size = some { cls := .type "tuple", data := .seq #[u1, u2] } := (sb.2 _ (Nat.ne_of_gt (low z (by simp)))).trans gP
    have J : Inv X pins σ (upd H s.heap.objs.size (.tup [x, y])) { s with heap := g' } := I.turnedNew (t' := s.toks) (ch := [z, TI, TO, i1, i2]) (fun c o hb q => by
      simp only [List.mem_cons, List.not_mem_nil, or_false, not_or] at hb
      exact (sb.2 c hb.1).trans (gk c o hb.1 hb.2.2.1 hb.2.2.2.1 hb.2.2.2.2 q)) ff (Nat.le_refl _) ⟨by show 2 ≤ sizeLine; decide, [u1, u2], .cons a2 (.cons b2 .nil), ⟨_, tup, rfl, _, rfl⟩⟩
    refine ⟨.ref s.heap.objs.size, _, J, rfl, ⟨_, x, y, rfl, I.hok.fresh (Nat.le_refl _), rfl, fun l q => by rw [I.list_inj q l1]; exact p1, fun l q => by rw [I.list_inj q l2]; exact p2⟩, ⟨gz', (sb.2 _ D.TIz).trans (gk _ _ D.TIz D.TITO D.TIi1 D.TIi2 z2), ⟨u1, u2, (sb.2 _ D.TOz).trans gT⟩, ?_, ?_⟩, fun c hc => ?_⟩
    · exact g1.at fun o q => (sb.2 _ D.i1z).trans q
    · exact g2.at fun o q => (sb.2 _ D.i2z).trans q
    · rw [upd_ne (Nat.ne_of_lt (low c hc))]
      exact (ff c hc).1
  fini := by
    rintro X rfl rfl rfl hot i pins s σ H E I ff ⟨z1, z2, ⟨v1, v2, z3⟩, n1, n2⟩ ⟨xs, l1, len⟩
    obtain ⟨cs, c1, c2, _⟩ := I.list l1
    obtain ⟨x1, hx⟩ := hot _ _ _ _ I
    have hl := c1.length
    refine hot_zip hx D.i1z.symm D.l1z z1 z2 n1 c2.isList (by simp; omega) fun g gk => ⟨rfl, I.turnedL (t' := s.toks) (ch := [z, TI, TO, i1, i2]) (fun c o hb q => ?_) ff⟩
    simp only [List.mem_cons, List.not_mem_nil, or_false, not_or] at hb
    exact gk c o hb.1 hb.2.2.2.1 q
/-- an iterator has come -/
structure HPI (X : Cx) (tg iter : Expr) (wi : TI) : Prop where
  run : ∀ pins s σ H (R : It → Hp → Prop), Inv X pins σ H s → wi σ H R → wpAny (model X.prog X.w) X.A (eval iter X.env) (fun v s1 => wpAny (model X.prog X.w) X.A (pyIter v) (fun iv s2 => ∃ z fp tn J H', iv = .ref z ∧ Inv X pins σ H' s2 ∧ HTurn X.prog X.w X.K tg J fp z tn ∧ tn 0 s2.heap ∧ (∀ b, b ∈ fp → FpOk X pins H' b) ∧ R J H') X.xe s1) X.xe s
def iZipA (K : PySem.W.Frag) (ta : TA) : TI := fun σ H R => ta σ H fun vs H1 => ∃ a b xs ys, vs = [.ref a, .ref b] ∧ SqL K H1 a xs ∧ SqL K H1 b ys ∧ R (ItzA K a b) H1
theorem hpi_zip {X : Cx} {e f : Expr} {ta : TA} {p pos tpos : Pos} {elts : List Expr} {kk : Nat} (hg : Gl X "zip") (hm : X.mg "zip" = none) (ha : PA X [e, f] ta) (h1 : starEach [e, f] X.env = (false, eval e X.env) :: starEach [f] X.env := by rfl) (h2 : (backTo pos (starEach [f] X.env)).any (·.1) = false := by rfl) :
    HPI X (.Tuple elts kk tpos) (.Call (.Name "zip" p) [e, f] [] pos) (iZipA X.K ta) := by
  constructor
  intro pins s σ H R I h
  refine Call_ (ld_blt I hg hm PyProof.Rows.boot_zip (PyProof.Rows.callWith_type1 (thn (ha.run pos pins s σ H _ I h) fun us s1 hz => ?_) h1 h2))
  obtain ⟨vs, H1, J, r1, a, b, xs, ys, ev, l1, l2, q⟩ := hz
  subst ev
  rcases r1 with _ | ⟨ra, r2⟩
  rcases r2 with _ | ⟨rb, r3⟩
  cases r3
  cases ra
  cases rb
  obtain ⟨cs, c1, c2, _⟩ := J.list l1
  obtain ⟨ds, d1, d2, _⟩ := J.list l2
  refine call_zip_2 c2.isList d2.isList fun g gz gT gO g1 g2 gs gk => wpAny_pyIter_zip gz ?_
  refine ⟨_, [s1.heap.objs.size + 4, s1.heap.objs.size + 2, s1.heap.objs.size + 3, s1.heap.objs.size, s1.heap.objs.size + 1], _, _, H1, rfl, J.kept (t' := s1.toks) gk, hturn_zip (PySem.W.ktu_apart s1.heap.objs.size a b c2.lt d2.lt), ⟨gz, gT, ⟨_, _, gO⟩, g1, g2⟩, fun c hc => ?_, q⟩
  have low : s1.heap.objs.size ≤ c := mem5 (P := fun c => s1.heap.objs.size ≤ c) hc (by omega) (by omega) (by omega) (Nat.le_refl _) (by omega)
  exact J.fpOk low (J.hok.fresh low)
end Sc

/-! a comprehension while an exception is handled -/
namespace Sc
open PySem PySem.Spec PyProof.Rows L2 Sm HotX
section
variable {X : Cx}
/-- a block of a comprehension knows the handled exception, too -/
theorem hotE_blk {pins : List (Addr × Obj)} {σ : L2.St} {H : Hp} {s : Shared} {scope : Scope} {ce : Env} {fp : List Addr} (c : L2H.HotC X) (I : Inv X pins σ H s) (hf : ∀ b, b ∈ fp → FpOk X pins H b) : HotE (X.blk s H scope ce fp) := by
  obtain ⟨p, ⟨h1, vs, h2, h3⟩, hp⟩ := c
  obtain ⟨g, n, l, f, _⟩ := I.pin p (List.mem_append_left _ hp)
  intro pins' σ' H' s' J
  refine ⟨p.1, h1, p.2, vs, J.base.keep p.1 p.2 g n (fun z => ?_) (fun z => ?_), h2, h3⟩
  · rcases List.mem_cons.mp (I.stkSub p.1 z) with e | e
    · exact l e
    · exact f e
  · exact (hf p.1 z).2.2.2.2.2 p (List.mem_append_left _ hp) rfl
/-- the walk of the comprehension -/
theorem hot_lc {elt tg iter : Expr} {ifs : List Expr} {scope : Scope} {own : List (Str × Nat)} {pos : Pos} {wi : TI} {g : TG} {tt : TT} {te : TE} (hc : L2H.HotC X) (hN : X.N.Nodup) (hi : HPI X tg iter wi) (ok : BlkOk X.N X.env.scope scope own)
    (hg : ∀ s H C cl fp, HotE (X.blk s H scope (compEnvC scope cl C X.env) fp) → PG (X.blk s H scope (compEnvC scope cl C X.env) fp) tg g) (ht : ∀ s H C cl fp, PTs (X.blk s H scope (compEnvC scope cl C X.env) fp) ifs tt) (he : ∀ s H C cl fp, PE (X.blk s H scope (compEnvC scope cl C X.env) fp) elt te) (hs : ∀ x, foldedSetIterable iter X.env x = pure x := by intro _; rfl) :
    PE X (.ListComp elt [⟨tg, iter, ifs, 0⟩] scope pos) (tLc wi g tt te (own.map (·.2))) := by
  constructor
  intro pins s σ H Q I h
  rw [eval_ListComp]
  have cells : ∀ y, y ∈ scope.names → y.2 = .free → ∃ c, X.env.cells.lookup y.1 = some c := fun y hy e => (ok.free y hy e).elim (fun k => I.ok.has _ (.inl k)) (fun k => I.ok.has _ (.inr k))
  refine wpAny_comprehension_free (use := none) rfl hs (closure_ok cells) ok.kind (fun y hy e => by rw [ok.uniq y hy, e]) (thn (hi.run pins s σ H _ I h) fun xv sA hA => thn hA fun iv sB hB => ?_)
  obtain ⟨z, fp, tn, J, HB, rfl, IB, T, tB, fB, wish⟩ := hB
  refine wpAny_newObj_type (newEnv_comp ?_) (by show 0 ≤ sizeLine; decide)
  -- D: the list that grows
  obtain ⟨D, eD⟩ : ∃ D, D = sB.heap.objs.size := ⟨_, rfl⟩
  obtain ⟨W, ⟨m0, wish0⟩, turn⟩ := wish D (IB.hok.fresh (Nat.le_of_eq eD.symm))
  obtain ⟨sC, eC⟩ : ∃ sC : Shared, sC = { sB with heap := sB.heap.push { cls := .type "list", data := .seq ([] : List Value).toArray } } := ⟨_, rfl⟩
  obtain ⟨HC, eH⟩ : ∃ HC, HC = upd HB D (.lst []) := ⟨_, rfl⟩
  have IC : Inv X pins σ HC sC := by
    subst eC eH eD
    exact IB.laid (t' := sB.toks) (fun b o e => Heap.get?_push_of_some _ e) (Nat.le_refl _) ⟨Nat.zero_le _, [], 0, .nil, Heap.get?_push_size _ rfl⟩
  have below : ∀ b, b ∈ fp → b < sB.heap.objs.size := fun b hb => let ⟨_, e, _⟩ := T.there tB b hb; Heap.lt_size e
  have pushed : ∀ b o, sB.heap.get? b = some o → sC.heap.get? b = some o := fun b o e => by subst eC; exact Heap.get?_push_of_some _ e
  have fC : ∀ b, b ∈ fp → FpOk X pins HC b ∧ b < sC.heap.objs.size := fun b hb => ⟨⟨by rw [eH, upd_ne (by rw [eD]; exact Nat.ne_of_lt (below b hb))]; exact (fB b hb).1, (fB b hb).2⟩, let ⟨_, e, _⟩ := T.there tB b hb; Heap.lt_size (pushed _ _ e)⟩
  have tC : tn 0 sC.heap := T.kept tB fun b _ o e => pushed b o e
  have IS := block_start IC ok hN fC
  rw [← eD] at *
  rw [← eC]
  obtain ⟨n0, en⟩ : ∃ n0, n0 = sC.heap.objs.size := ⟨_, rfl⟩
  rw [← en] at IS ⊢
  have pg := hg sC HC n0 (cellsFrom (n0 + 1) scope.names (cloFrom X.env.cells scope.names [])) fp
  have pt := ht sC HC n0 (cellsFrom (n0 + 1) scope.names (cloFrom X.env.cells scope.names [])) fp
  have pe := he sC HC n0 (cellsFrom (n0 + 1) scope.names (cloFrom X.env.cells scope.names [])) fp
  show codeAny _ _ (.compStart _ 0 (.ref z) (.ref D) (compEnvC scope (cellsFrom (n0 + 1) scope.names (cloFrom X.env.cells scope.names [])) n0 X.env)) (compPost (model X.prog X.w) X.A X.xe none (EP X pins σ Q) (.ref D) n0) _
  obtain ⟨ce, ec, el⟩ : ∃ ce, compEnvC scope (cellsFrom (n0 + 1) scope.names (cloFrom X.env.cells scope.names [])) n0 X.env = ce ∧ ce.locals = n0 := ⟨_, rfl, rfl⟩
  rw [ec] at IS pg pt pe ⊢
  have hot : HotE (X.blk sC HC scope ce fp) := hotE_blk hc IC fun b hb => (fC b hb).1
  have pg := pg hot
  obtain ⟨sS, eS⟩ : ∃ sS : Shared, sS = { sC with heap := pushCells (sC.heap.push { cls := .type "dict", data := .dict #[] }) scope.names } := ⟨_, rfl⟩
  rw [← eS] at IS ⊢
  have tS : tn 0 sS.heap := T.kept tC fun b _ o e => by subst eS; exact pushCells_keeps _ _ _ _ (Heap.get?_push_of_some _ e)
  have free : ∀ {σ' : L2.St} {H' : Hp} {s' : Shared}, Inv (X.blk sC HC scope ce fp) [] σ' H' s' → (∀ b, b ∈ fp → H' b = none) → ∀ b, b ∈ fp → FpOk (X.blk sC HC scope ce fp) [] H' b := fun {σ' H' s'} J' hn b hb =>
    ⟨hn b hb, (J'.ok.exf b hb).1, J'.ok.exfs b hb, .inl hb, (J'.ok.exf b hb).2, fun p hp => by cases hp⟩
  have loop : codeAny (model X.prog X.w) X.A (.compLoop (.ListComp elt [⟨tg, iter, ifs, 0⟩] scope pos) 0 (.ref z) (.ref D) ce) (compPost (model X.prog X.w) X.A X.xe none (EP X pins σ Q) (.ref D) n0) sS := by
    refine compLoop_any (fun m s' => ∃ i H', Inv (X.blk sC HC scope ce fp) [] (wipe σ (own.map (·.2))) H' s' ∧ tn i s'.heap ∧ (∀ b, b ∈ fp → H' b = none) ∧ W i m H') ?_ m0 ⟨0, HC, IS, tS, fun b hb => (fC b hb).1.1, by rw [eH]; exact wish0⟩
    rintro m s1 ⟨i, H1, I1, t1, f1, w1⟩
    rcases turn i m H1 w1 with ⟨stop, q⟩ | ⟨go, Nx, less, step⟩
    · refine thnF (T.fini (X.blk sC HC scope ce fp) rfl rfl rfl hot i [] s1 _ H1 (fun _ _ => False) I1 (free I1 f1) t1 stop) fun r s2 ⟨er, I2⟩ => ?_
      subst er
      -- the block is left
      have back : Inv X pins σ H1 s2 := IC.call' (ch := fp) I2.os I2.base I2.hok I2.bare fun b hb => let y := (fC b hb).1.2; ⟨y.2.2.1, y.1, y.2.2.2.1, y.2.2.2.2⟩
      have nn : H1 n0 = none := el ▸ I2.free
      obtain ⟨k, ns, _⟩ := I2.loc
      refine ⟨k, el ▸ ns, fun h'' sb => ?_⟩
      obtain ⟨f0, f1, f2, f3, f4, f5⟩ := IC.fpOk (Nat.le_of_eq en.symm) nn
      exact ⟨.ref D, H1, back.turned (t' := s2.toks) (fun b o hb e => (sb.2 b hb).trans e) f0 f1 f3 f4 f5, rfl, q⟩
    · refine thnF (T.more (X.blk sC HC scope ce fp) rfl rfl rfl i [] s1 _ H1 (fun _ _ => False) I1 (free I1 f1) t1 go) fun r s2 ⟨u, er, h2⟩ => ?_
      subst er
      refine thnF h2 fun _ s3 ⟨x, H3, I3, r3, y3, t3, f3⟩ => ?_
      refine thnF (pg.run _ s3 _ H3 x u _ (I3.pinned (free I3 f3) fun b hb => T.there t3 b hb) r3 (step x H3 y3)) fun _ s4 ⟨σ4, H4, I4, e4, q4⟩ => ?_
      refine thnF (pt.run _ s4 σ4 H4 _ I4 q4) fun b s5 ⟨H5, I5, q5⟩ => ?_
      have again : ∀ {s' : Shared} {H' : Hp}, Inv (X.blk sC HC scope ce fp) ([] ++ pinsAt fp s3.heap) σ4 H' s' → Nx H' → ∃ m', m' < m ∧ ∃ i H', Inv (X.blk sC HC scope ce fp) [] (wipe σ (own.map (·.2))) H' s' ∧ tn i s'.heap ∧ (∀ b, b ∈ fp → H' b = none) ∧ W i m' H' := fun {s' H'} I' nx => by
        obtain ⟨m', lt, w'⟩ := less H' nx
        have stays : ∀ b, b ∈ fp → ∀ o, s3.heap.get? b = some o → s'.heap.get? b = some o ∧ H' b = none := fun b hb o e => let y := I'.pin (b, o) (List.mem_append_right _ (List.mem_append_right _ (mem_pinsAt hb e))); ⟨y.1, y.2.1⟩
        refine ⟨m', lt, i + 1, H', (I'.unpinned (pins := [])).weak (by rw [← e4, wipe_length]) (fun j v e => by rw [← e4] at e; exact (wipe_some e).1), T.kept t3 fun b hb o e => (stays b hb o e).1, fun b hb => ?_, w'⟩
        obtain ⟨o, e, _⟩ := T.there t3 b hb
        exact (stays b hb o e).2
      dsimp only at q5
      by_cases hb : b = true
      · rw [if_pos hb] at q5 ⊢
        refine thnF (pe.run _ s5 σ4 H5 _ I5 q5) fun y s6 ⟨yv, H6, I6, r6, acc, a1, a2, nx⟩ => ?_
        exact app_ok (X := X.blk sC HC scope ce fp) I6 a1 a2 r6 fun s7 I7 => again I7 nx
      · rw [if_neg hb] at q5 ⊢
        exact again I5 q5
  exact codeAny_compStart_list loop (T.own X.A 0 _ _ _ tS loop)
variable {W : WX} {e f elt : Expr} {Te Tf Tel : TE2} {Tt : TT2} {pos : Pos}
/-- zip, the first list not the longer one -/
def dZipA (Te Tf : TE2) : TI2 := fun x ds S Q => Te x ds S fun d S1 => Tf x ds S1 fun e S2 => ∃ xs ys, d = .lst xs ∧ e = .lst ys ∧ xs.length ≤ ys.length ∧ Q (zipD xs ys) S2
theorem e_lcZ {g : TG} {G : TG2} {elts : List Expr} {kk : Nat} {p tpos cpos : Pos} {ifs : List Expr} {scope : Scope} {own : List (Str × Nat)} (hc : L2H.HotC X) (hN : X.N.Nodup) (he : E2 X W e Te) (hf : E2 X W f Tf) (hm : X.mg "zip" = none) (ok : BlkOk X.N X.env.scope scope own) (hG : CG2 X.K (own.map (·.2)) g G)
    (hg : ∀ s H C cl fp, HotE (X.blk s H scope (compEnvC scope cl C X.env) fp) → PG (X.blk s H scope (compEnvC scope cl C X.env) fp) (.Tuple elts kk tpos) g) (ht : ∀ s H C cl fp, F2 (X.blk s H scope (compEnvC scope cl C X.env) fp) ifs Tt) (hel : ∀ s H C cl fp, E2 (X.blk s H scope (compEnvC scope cl C X.env) fp) W0 elt Tel)
    (gz : Gl X "zip" := by rfl) (h1 : starEach [e, f] X.env = (false, eval e X.env) :: starEach [f] X.env := by rfl) (h2 : starEach [f] X.env = (false, eval f X.env) :: starEach [] X.env := by rfl) (h3 : (backTo cpos (starEach [f] X.env)).any (·.1) = false := by rfl) :
    E2 X W (.ListComp elt [⟨.Tuple elts kk tpos, .Call (.Name "zip" p) [e, f] [] cpos, ifs, 0⟩] scope pos) (dLc (dZipA Te Tf) G Tt Tel) := by
  have im : ∀ x ds S Q Q', (∀ d S', Q d S' → Q' d S') → dZipA Te Tf x ds S Q → dZipA Te Tf x ds S Q' := fun x ds S Q Q' h q => he.mono x ds S _ _ (fun d S1 q => hf.mono x ds S1 _ _ (fun e S2 ⟨xs, ys, e1, e2, le, q⟩ => ⟨xs, ys, e1, e2, le, h _ _ q⟩) q) q
  have tm := (ht X.s_0 X.H_0 0 [] []).mono
  have em := (hel X.s_0 X.H_0 0 [] []).mono
  refine ⟨fun x ds S Q Q' h q => im _ _ _ _ _ (fun items S1 q p hp => dComp.mono hG.mono tm em h items [] _ (q p hp)) q, ?_⟩
  obtain ⟨t, pt, r⟩ := he.run
  obtain ⟨t', pt', r'⟩ := hf.run
  refine ⟨_, hot_lc hc hN (hpi_zip gz hm (pa_cons pt (pa_cons pt' pa_nil h2) h1) h1 h3) ok hg (fun s H C cl fp => (ht s H C cl fp).run) (fun s H C cl fp => (hel s H C cl fp).canon), lc_lift hG tm em im fun x ds S σ H R h q => r x ds S σ H _ h (he.mono x ds S _ _ (fun d S1 q v H1 s1 r1 => r' x ds S1 σ H1 _ (h.step s1) (hf.mono x ds S1 _ _ (fun d' S2 ⟨ds1, ds2, e1, e2, le, q2⟩ v' H2 s2 r2 => ?_) q)) q)⟩
  subst e1 e2
  obtain ⟨a, xs, e3, g1, g2⟩ := r1.mono s2.same
  obtain ⟨b, ys, e4, k1, k2⟩ := r2
  subst e3 e4
  refine ⟨a, b, xs, ys, rfl, sqL_mono wo_le g1, sqL_mono wo_le k1, q2 H2 _ (s1.trans s2) fun S3 H3 s3 => ?_⟩
  have g3 : SqL X.K H3 a xs := sqL_mono wo_le (sqL_mono s3.same g1)
  have k3 : SqL X.K H3 b ys := sqL_mono wo_le (sqL_mono s3.same k1)
  have gg := g2.mono s3.same
  have kk := k2.mono s3.same
  have ll : (zipD ds1 ds2).length = xs.length := by rw [zipD_len, Nat.min_eq_left le]; exact g2.length.symm
  refine ⟨fun i hi => ?_, fun i hi => ⟨xs, g3, by omega⟩, fun i v H' d hy hd => ?_⟩
  · rw [zipD_len] at hi
    have l1 : i < xs.length := by rw [g2.length]; omega
    have l2 : i < ys.length := by rw [k2.length]; omega
    exact ⟨xs, ys, xs[i], ys[i], g3, k3, List.getElem?_eq_getElem l1, List.getElem?_eq_getElem l2⟩
  · obtain ⟨T, y, z, ev, hT, eH, hv, hw⟩ := hy
    subst ev eH
    obtain ⟨c, c', hc, hc', ed⟩ := zipD_get hd
    subst ed
    obtain ⟨u, u1, u2⟩ := gg.get hc
    obtain ⟨w, w1, w2⟩ := kk.get hc'
    cases (hv xs g3).symm.trans u1
    cases (hw ys k3).symm.trans w1
    have sm := new_same (o := .tup [y, z]) s3.wd hT
    exact ⟨⟨sm, new_wd s3.wd hT⟩, T, [y, z], rfl, SqT.of (new_at s3.wd hT), ⟨_, _, rfl, u2.mono sm, ⟨_, _, rfl, w2.mono sm, rfl⟩⟩⟩
end
end Sc

/-! texts: join, split -/
namespace Sc
open PySem PySem.Spec PyProof.Rows L2 Sm
section
variable {X : Cx} {W : WX} {o e : Expr} {To Te : TE2} {apos pos : Pos}
/-- sep.join(list of texts) -/
def dJoin (To Te : TE2) : TE2 := fun x ds S Q => To x ds S fun d S1 => ∃ a, d = .str a ∧ Te x ds S1 fun f S2 => ∃ ys : List Str, f = .lst (ys.map Dt.str) ∧ (ys.map (·.length)).sum + ys.length * a.length ≤ 16777216 ∧ Q (.str (Txt.join a ys)) S2
theorem e_join (ho : E2 X W o To) (he : E2 X W e Te) (hs : starEach [e] X.env = [(false, eval e X.env)] := by rfl) (hbase : attributeBase o "join" X.env (eval o X.env) = eval o X.env := by rfl) (hline : (apos.endLine == pos.line) = true := by rfl) :
    E2 X W (.Call (.Attribute o "join" apos) [e] [] pos) (dJoin To Te) := ⟨fun x ds S Q Q' h q => ho.mono x ds S _ _ (fun d S1 ⟨a, e1, q⟩ => ⟨a, e1, he.mono x ds S1 _ _ (fun f S2 ⟨ys, e2, l, q⟩ => ⟨ys, e2, l, h _ _ q⟩) q⟩) q, by
  obtain ⟨t, p, r⟩ := ho.run
  obtain ⟨t', p', r'⟩ := he.run
  refine ⟨_, pe_join p p' hs hbase hline, fun x ds S σ H Q h q => r x ds S σ H _ h (ho.mono x ds S _ _ (fun d S1 ⟨a, e1, q⟩ v H1 s1 r1 => ?_) q)⟩
  subst e1
  cases (show v = _ from r1)
  refine ⟨⟨a, rfl⟩, r' x ds S1 σ H1 _ (h.step s1) (he.mono x ds S1 _ _ (fun f S2 ⟨ys, e2, l, q⟩ u H2 s2 r2 => ?_) q)⟩
  subst e2
  obtain ⟨b, xs, e3, g1, g2⟩ := r2
  subst e3
  have ex := g2.strs
  subst ex
  exact ⟨a, b, ys, rfl, rfl, .inl (sqL_mono wo_le g1), l, q _ _ (s1.trans s2) rfl⟩⟩
/-- text.split(sep) -/
def dSplit (To Te : TE2) : TE2 := fun x ds S Q => To x ds S fun d S1 => ∃ a, d = .str a ∧ Te x ds S1 fun f S2 => ∃ b, f = .str b ∧ (b.length == 0) = false ∧ a.length + 2 ≤ 100000 ∧ newL ((Txt.split a b).map Dt.str) S2 Q
theorem strs_rps {K : PySem.W.Frag} {I : Hp} : ∀ ys : List Str, Rps K I (ys.map Dt.str) (ys.map V.str)
  | [] => rfl
  | y :: r => ⟨_, _, rfl, rfl, strs_rps r⟩
theorem e_split (ho : E2 X W o To) (he : E2 X W e Te) (hs : starEach [e] X.env = [(false, eval e X.env)] := by rfl) (hbase : attributeBase o "split" X.env (eval o X.env) = eval o X.env := by rfl) (hline : (apos.endLine == pos.line) = true := by rfl) :
    E2 X W (.Call (.Attribute o "split" apos) [e] [] pos) (dSplit To Te) := ⟨fun x ds S Q Q' h q => ho.mono x ds S _ _ (fun d S1 ⟨a, e1, q⟩ => ⟨a, e1, he.mono x ds S1 _ _ (fun f S2 ⟨b, e2, l, l2, q⟩ => ⟨b, e2, l, l2, newL.mono h q⟩) q⟩) q, by
  obtain ⟨t, p, r⟩ := ho.run
  obtain ⟨t', p', r'⟩ := he.run
  refine ⟨_, pe_split p p' hs hbase hline, fun x ds S σ H Q h q => r x ds S σ H _ h (ho.mono x ds S _ _ (fun d S1 ⟨a, e1, q⟩ v H1 s1 r1 => ?_) q)⟩
  subst e1
  cases (show v = _ from r1)
  refine ⟨⟨a, rfl⟩, r' x ds S1 σ H1 _ (h.step s1) (he.mono x ds S1 _ _ (fun f S2 ⟨b, e2, l, l2, q⟩ u H2 s2 r2 => ?_) q)⟩
  subst e2
  cases (show u = _ from r2)
  exact ⟨a, b, rfl, rfl, l, size_le l2, fun l hl => newL.run (s1.trans s2) (strs_rps _) q hl⟩⟩
end
/-- the suite knows its exception -/
theorem hotC_suite {X : Cx} {C a : Addr} {oe : Obj} {pn : List (Addr × Obj)} (hz : L2N.Zn (.ref C) none oe) (hf : ∃ vs, oe.data = .fields vs) : L2H.HotC (X.suite a ((a, oe) :: pn)) := by
  obtain ⟨vs, e⟩ := hf
  exact ⟨(a, oe), ⟨rfl, vs, e, hz.2.2 vs e⟩, List.mem_cons_self⟩
end Sc

/-! a call of what stands at a place of a list of defs -/
namespace Sc
open PySem PySem.Spec PyProof.Rows L2 Sm
/-- the def at f, by whatever name, keeps the promise -/
def HasA (P : Program) (w : World) (K : PySem.W.Frag) (mg : Str → Option Value) (base : Heap) (k : Nat) (f : Addr) (sp : Sp2) : Prop :=
  sp.Mono ∧ ∃ (fd : FuncData) (ps : List Str), PySem.W.keepIn K (.ref f) = true ∧ Binds K fd ps [] ∧ FnOk P w K mg base (L2N.CX P w) k f fd ps (lift K sp)
theorem Has.at {P : Program} {w : World} {K : PySem.W.Frag} {mg : Str → Option Value} {base : Heap} {k : Nat} {x : Str} {ps : List Str} {sp : Sp2} {f : Addr} (h : Has P w K mg base k x ps sp) (g : mg x = some (.ref f)) : HasA P w K mg base k f sp := by
  obtain ⟨m, f', fd, hm, kp, b, F⟩ := h
  have e : some (Value.ref f') = some (.ref f) := hm.symm.trans g
  cases e
  exact ⟨m, fd, ps, kp, b, F⟩
/-- all of them -/
def AllV (P : Program) (w : World) (K : PySem.W.Frag) (mg : Str → Option Value) (base : Heap) (A : Around) (L : List (Addr × Sp2)) : Prop := ∀ p, p ∈ L → ∃ k, HasA P w K mg base k p.1 p.2 ∧ Room k A
theorem av_nil {P : Program} {w : World} {K : PySem.W.Frag} {mg : Str → Option Value} {base : Heap} {A : Around} : AllV P w K mg base A [] := fun p h => nomatch h
theorem av_cons {P : Program} {w : World} {K : PySem.W.Frag} {mg : Str → Option Value} {base : Heap} {A : Around} {k : Nat} {x : Str} {ps : List Str} {sp : Sp2} {f : Addr} {L : List (Addr × Sp2)} (h : Has P w K mg base k x ps sp) (g : mg x = some (.ref f)) (hr : Room k A)
    (t : AllV P w K mg base A L) : AllV P w K mg base A ((f, sp) :: L) := fun p hp => by
  rcases List.mem_cons.mp hp with rfl | hp
  · exact ⟨k, h.at g, hr⟩
  · exact t p hp
def tCallV (fs : List (Addr × Sp)) (E : L2.St → XK) (tf : TE) (t : TA) : TE := fun σ H Q => tf σ H fun v H1 => ∃ f sp, v = .ref f ∧ (f, sp) ∈ fs ∧ t σ H1 fun vs H2 => sp vs H2 Q (E σ)
def dCallV (L : List (Addr × Sp2)) (Tf : TE2) (T : TA2) : TE2 := fun x ds S Q => Tf x ds S fun d S1 => ∃ f sp, d = .ref f ∧ (f, sp) ∈ L ∧ T x ds S1 fun vs S2 => sp vs S2 Q fun C S' => x C ds S'
section
variable {X : Cx} {W : WX} {a b e : Expr} {es : List Expr} {Tf : TE2} {TA : TA2} {p pos : Pos}
theorem e_callV {L : List (Addr × Sp2)} (hF : AllV X.prog X.w X.K X.mg X.base X.A L) (tk : L2N.Takes X W) (hf : E2 X W (.Subscript a b p) Tf) (ha : A2 X W (e :: es) TA)
    (he : starEach (e :: es) X.env = (false, eval e X.env) :: starEach es X.env := by rfl) (hpl : (backTo pos (starEach es X.env)).any (·.1) = false := by rfl) :
    E2 X W (.Call (.Subscript a b p) (e :: es) [] pos) (dCallV L Tf TA) := by
  have mono : ∀ x ds S Q Q', (∀ d S', Q d S' → Q' d S') → dCallV L Tf TA x ds S Q → dCallV L Tf TA x ds S Q' := fun x ds S Q Q' hq q => by
    refine hf.mono x ds S _ _ (fun d S1 z => ?_) q
    obtain ⟨f, sp, e1, hm, q1⟩ := z
    obtain ⟨k, ⟨m, _⟩, _⟩ := hF _ hm
    exact ⟨f, sp, e1, hm, ha.mono x ds S1 _ _ (fun vs S2 q2 => m.q _ _ _ _ _ _ hq (fun _ _ z => z) q2) q1⟩
  refine ⟨mono, ?_⟩
  obtain ⟨tf, pf, rf⟩ := hf.run
  obtain ⟨t, pt, r⟩ := ha.run
  refine ⟨tCallV (L.map fun z => (z.1, lift X.K z.2)) (WE W) tf t, ⟨fun pins s σ H Q I h => ?_⟩, fun x ds S σ H Q h q => ?_⟩
  · have ev : eval (.Call (.Subscript a b p) (e :: es) [] pos) X.env = (do callWith pos (← eval (.Subscript a b p) X.env) [] (backTo pos (starEach (e :: es) X.env)) (backToKw pos (keywordEach [] X.env))) := rfl
    rw [ev]
    refine wpAny_bind (thn (pf.run pins s σ H _ I h) fun u s1 ⟨v, H1, I1, r1, f, sp, e1, hm, q1⟩ => ?_)
    obtain ⟨z, hz, e2⟩ := List.mem_map.mp hm
    cases e2
    subst e1
    cases r1
    obtain ⟨k, ⟨m, fd, ps, kp, b, F⟩, hr⟩ := hF _ hz
    exact PySem.W.callWith_K (h₀ := X.base) I1.ok.mod.kin kp (thn (pt.run pos pins s1 σ H1 _ I1 q1) fun us s2 ⟨vs, H2, I2, r2, q2⟩ => ⟨I2.kIn, run_fnS F hr b (L2N.passAt tk σ) I2 r2 q2⟩) he hpl
  · refine rf x ds S σ H _ h (hf.mono x ds S _ _ (fun d S1 ⟨f, sp, e1, hm, q1⟩ v H1 s1 r1 => ?_) q)
    subst e1
    obtain ⟨k, ⟨m, _⟩, _⟩ := hF _ hm
    refine ⟨f, lift X.K sp, r1, List.mem_map.mpr ⟨(f, sp), hm, rfl⟩, ?_⟩
    refine r x ds S1 σ H1 _ (h.step s1) (ha.mono x ds S1 _ _ (fun vs S2 q2 us H2 s2 r2 => ?_) q1)
    have s12 := s1.trans s2
    refine ⟨S2, vs, s2.wd, r2, m.q _ _ _ _ _ _ (fun z S3 q3 => q3.step s12) (fun C S3 q3 H3 s3 => ?_) q2⟩
    exact (h.step s12).xe C ds S3 q3 σ H3 s3 ((h.step s12).rs.mono s3.same)
end
end Sc

/-! instances of a class of one's own -/
namespace Sc
open PySem PySem.Spec PyProof.Rows L2 Sm
def putD (f : Str) (v : Dt) : List (Str × Dt) → List (Str × Dt)
  | [] => [(f, v)]
  | (g, x) :: r => if g = f then (g, v) :: r else (g, x) :: putD f v r
theorem putD_nil {f : Str} {v : Dt} : putD f v [] = [(f, v)] := rfl
theorem putD_same {f : Str} {v x : Dt} {r : List (Str × Dt)} : putD f v ((f, x) :: r) = (f, v) :: r := if_pos rfl
theorem putD_ne {f g : Str} {v x : Dt} {r : List (Str × Dt)} (h : g ≠ f) : putD f v ((g, x) :: r) = (g, x) :: putD f v r := if_neg h
section
variable {K : PySem.W.Frag} {I : Hp}
theorem Rfs.length : ∀ {fs : List (Str × Dt)} {vs : List (Str × V)}, Rfs K I fs vs → vs.length = fs.length
  | [], _, h => by cases (show _ = [] from h); rfl
  | (x, d) :: fs, _, ⟨v, r, e1, h1, h2⟩ => by subst e1; simp [Rfs.length h2]
theorem Rfs.lookup {f : Str} {d : Dt} : ∀ {fs : List (Str × Dt)} {vs : List (Str × V)}, Rfs K I fs vs → fs.lookup f = some d → ∃ v, vs.lookup f = some v ∧ Rp K I d v
  | [], _, _, h => nomatch h
  | (x, d') :: fs, _, ⟨v, r, e1, h1, h2⟩, h => by
    subst e1
    have h' : (match f == x with | true => some d' | false => fs.lookup f) = some d := h
    show ∃ w, (match f == x with | true => some v | false => r.lookup f) = some w ∧ _
    cases q : f == x with
    | true =>
      rw [q] at h'
      cases h'
      exact ⟨v, rfl, h1⟩
    | false =>
      rw [q] at h'
      exact Rfs.lookup h2 h'
theorem Rfs.lookup_none {f : Str} : ∀ {fs : List (Str × Dt)} {vs : List (Str × V)}, Rfs K I fs vs → fs.lookup f = none → vs.lookup f = none
  | [], _, h, _ => by cases (show _ = [] from h); rfl
  | (x, d') :: fs, _, ⟨v, r, e1, h1, h2⟩, h => by
    subst e1
    have h' : (match f == x with | true => some d' | false => fs.lookup f) = none := h
    show (match f == x with | true => some v | false => r.lookup f) = none
    cases q : f == x with
    | true =>
      rw [q] at h'
      cases h'
    | false =>
      rw [q] at h'
      exact Rfs.lookup_none h2 h'
theorem Rfs.put {f : Str} {d : Dt} {v : V} (r : Rp K I d v) : ∀ {fs : List (Str × Dt)} {vs : List (Str × V)}, Rfs K I fs vs → Rfs K I (putD f d fs) (putF f v vs)
  | [], _, h => by cases (show _ = [] from h); exact ⟨v, [], rfl, r, rfl⟩
  | (x, d') :: fs, _, ⟨v', rr, e1, h1, h2⟩ => by
    subst e1
    unfold putD putF
    by_cases e : x = f
    · rw [if_pos e, if_pos e]
      exact ⟨v, rr, rfl, r, h2⟩
    · rw [if_neg e, if_neg e]
      exact ⟨v', _, rfl, h1, Rfs.put r h2⟩
end
/-! ### attributes -/
def dFld (C : Addr) (f : Str) (Te : TE2) : TE2 := fun x ds S Q => Te x ds S fun d S1 => ∃ a fs v, d = .ref a ∧ S1 a = some (.ins C fs) ∧ fs.lookup f = some v ∧ Q v S1
def dSetF (C : Addr) (f : Str) (To Tv : TE2) : TS2 := fun x D ds S => Tv x ds S fun v S1 => To x ds S1 fun d S2 => ∃ a fs, d = .ref a ∧ S2 a = some (.ins C fs) ∧ fs.length < 1000 ∧ D.nx ds (S2.put a (.ins C (putD f v fs)))
section
variable {X : Cx} {W : WX} {o e value : Expr} {es : List Expr} {Te To Tv : TE2} {TA : TA2} {pos pos' apos p : Pos} {C f : Addr} {m : Str}
theorem e_fld {f : Str} (c : Cls X.K C) (n : NoAttr X.K C f) (he : E2 X W e Te) (hb : attributeBase e f X.env (eval e X.env) = eval e X.env := by rfl) : E2 X W (.Attribute e f pos) (dFld C f Te) := ⟨fun x ds S Q Q' h p =>
    he.mono x ds S _ _ (fun d S1 ⟨a, fs, v, e1, e2, e3, q⟩ => ⟨a, fs, v, e1, e2, e3, h _ _ q⟩) p, by
  obtain ⟨t, p, r⟩ := he.run
  refine ⟨_, pe_fld p hb, fun x ds S σ H Q h q => r x ds S σ H _ h (he.mono x ds S _ _ (fun d S1 ⟨a, fs, v, e1, e2, e3, q⟩ u H1 s1 r1 => ?_) q)⟩
  subst e1
  obtain ⟨dx, vs, h1, h2⟩ := s1.wd a _ e2
  obtain ⟨w, k1, k2⟩ := h2.lookup e3
  exact ⟨a, C, dx, vs, w, r1, h1, c, n, k1, q w H1 s1 k2⟩⟩
theorem s_fld {f : Str} (c : Cls X.K C) (n : NoAttr X.K C f) (ho : E2 X W o To) (hv : E2 X W value Tv) (hs : swapsWith value (some (.Attribute o f pos')) pos.line X.env = pure false := by rfl) : S2 X W (.Assign [.Attribute o f pos'] value pos) (dSetF C f To Tv) := ⟨fun x ds S D D' h q =>
    hv.mono x ds S _ _ (fun v S1 q => ho.mono x ds S1 _ _ (fun d S2 ⟨a, fs, e1, e2, e3, q⟩ => ⟨a, fs, e1, e2, e3, h.nx _ _ q⟩) q) q, by
  obtain ⟨tv, pv, rv⟩ := hv.run
  obtain ⟨to, po, ro⟩ := ho.run
  refine ⟨_, ps_fld po pv hs, fun x ds S σ H D h q => rv x ds S σ H _ h (hv.mono x ds S _ _ (fun v S1 q u H1 s1 r1 => ?_) q)⟩
  refine ro x ds S1 σ H1 _ (h.step s1) (ho.mono x ds S1 _ _ (fun d S2 ⟨a, fs, e1, e2, e3, q⟩ u2 H2 s2 r2 => ?_) q)
  subst e1
  obtain ⟨dx, vs, h1, h2⟩ := s2.wd a _ e2
  have hS : S2 a ≠ none ∨ H2 a = none := .inl (by rw [e2]; intro z; cases z)
  have w0 := put_wo (H := H2) (o := .ins C dx (putF f u vs)) (.ins C (putD f v fs)) hS
  have s3 : Step X.K S2 H2 (S2.put a (.ins C (putD f v fs))) (upd H2 a (.ins C dx (putF f u vs))) := ⟨by rw [w0]; exact Same.refl _, put_wd s2.wd hS ⟨dx, _, upd_same, h2.put (r1.mono s2.same)⟩⟩
  exact ⟨a, C, dx, vs, r2, h1, c, n, by rw [h2.length]; exact e3, q σ _ ((s1.trans s2).trans s3) (h.rs.mono ((s1.trans s2).trans s3).same)⟩⟩
/-! ### a new one -/
theorem passF {X : Cx} : Passes (L2N.CX X.prog X.w) X (fun _ _ _ => False) := fun _ _ _ _ _ _ _ ⟨_, _, _, _, _, _, _, _, _, _, _, _, z⟩ => z.elim
def dMake (C : Addr) (sp : Sp2) (T : TA2) : TE2 := fun x ds S Q => T x ds S fun vs S1 => ∀ p, S1 p = none → sp (.ref p :: vs) (S1.put p (.ins C [])) (fun d S2 => d = .non ∧ Q (.ref p) S2) (fun _ _ => False)
theorem e_make {k : Nat} {sp : Sp2} {x : Str} (M : Mk X.K C f) (F : HasA X.prog X.w X.K X.mg X.base k f sp) (hr : Room (k + 1) X.A) (hm : X.mg x = some (.ref C)) (ha : A2 X W (e :: es) TA) (hg : Gl X x := by rfl)
    (hdb : (x == ("__debug__" : Str)) = false := by decide) (he : starEach (e :: es) X.env = (false, eval e X.env) :: starEach es X.env := by rfl) (hpl : (backTo pos (starEach es X.env)).any (·.1) = false := by rfl) :
    E2 X W (.Call (.Name x p) (e :: es) [] pos) (dMake C sp TA) := by
  obtain ⟨mo, fd, ps, kp, b, F⟩ := F
  refine ⟨fun x ds S Q Q' hq q => ha.mono x ds S _ _ (fun vs S1 q p hp => mo.q _ _ _ _ _ _ (fun d S2 z => ⟨z.1, hq _ _ z.2⟩) (fun _ _ z => z) (q p hp)) q, ?_⟩
  obtain ⟨t, pt, r⟩ := ha.run
  refine ⟨_, pe_make (dvs := []) M F hr hg hm b .nil passF pt hdb he hpl, fun x ds S σ H Q h q => ?_⟩
  refine r x ds S σ H _ h (ha.mono x ds S _ _ (fun d S1 q vs H1 s1 r1 => ?_) q)
  intro y dx hy hdx hne
  rw [List.append_nil]
  have hSy := s1.wd.free hy
  have hSd := s1.wd.free hdx
  -- the dict
  have sd : Step X.K S1 H1 S1 (upd H1 dx (.own y)) := ⟨new_same s1.wd hdx, new_wd s1.wd hdx⟩
  have hy2 : (upd H1 dx (.own y)) y = none := by rw [upd_ne hne.symm]; exact hy
  have w0 := put_wo (S := S1) (H := upd H1 dx (.own y)) (p := y) (o := .ins C dx []) (.ins C []) (.inr hy2)
  have si : Step X.K S1 (upd H1 dx (.own y)) (S1.put y (.ins C [])) (upd (upd H1 dx (.own y)) y (.ins C dx [])) := ⟨by rw [w0]; exact Same.refl _, put_wd sd.wd (.inr hy2) ⟨dx, [], upd_same, rfl⟩⟩
  have s2 := sd.trans si
  refine ⟨S1.put y (.ins C []), .ref y :: d, s2.wd, ⟨_, _, rfl, rfl, r1.mono s2.same⟩, mo.q _ _ _ _ _ _ (fun z S3 ⟨e1, q3⟩ v H3 s3 r3 => ?_) (fun _ _ z => z.elim) (q y hSy)⟩
  subst e1
  exact ⟨r3, q3 _ _ ((s1.trans s2).trans s3) rfl⟩
/-! ### methods -/
def tMethT (C : Addr) (m : Str) (sp : Sp) (E : L2.St → XK) (ta : TE) (t : L2.TA) : TE := fun σ H Q => ta σ H fun x H1 => ∃ a dx fs, x = .ref a ∧ H1 a = some (.ins C dx fs) ∧ fs.lookup m = none ∧ t σ H1 fun vs H2 => sp (x :: vs) H2 Q (E σ)
theorem pe_methT {CX : CXT} {pl : Sem Bool} {k : Nat} {fd : FuncData} {ps : List Str} {sp : Sp} {E : L2.St → XK} {ta : TE} {t : L2.TA} (he : PE X o ta) (c : Cls X.K C) (hm : Meth X.K C m f) (F : FnOk X.prog X.w X.K X.mg X.base CX k f fd ps sp) (hr : Room k X.A) (hb : Binds X.K fd ps []) (hx : ∀ σ, PassesAt CX X σ (E σ)) (ha : PA X (e :: es) t)
    (hst : starEach (e :: es) X.env = (false, eval e X.env) :: starEach es X.env := by rfl) (hpl : (backTo pos (starEach es X.env)).any (·.1) = false := by rfl)
    (ht : eval (.Call (.Attribute o m apos) (e :: es) [] pos) X.env = (do
      let ov ← eval o X.env
      standAt apos.atName
      let (f, first) ← holding [ov] (getMethod ov m pl)
      callWith pos f first (backTo pos (starEach (e :: es) X.env)) (backToKw pos (keywordEach [] X.env))) := by rfl) :
    PE X (.Call (.Attribute o m apos) (e :: es) [] pos) (tMethT C m sp E ta t) := by
  refine ⟨fun pins s σ H Q I h => ?_⟩
  refine PySem.W.methodCall_KW (pl := pl) (thn (he.run pins s σ H _ I h) fun u s1 ⟨x, H1, I1, rx, a, dx, fs, ex, ea, l, q⟩ => ?_) ht
  subst ex
  obtain rfl : u = Value.ref a := rx
  refine getmeth_ok I1 ea c hm l ?_
  exact PySem.W.callWith_K (first := [.ref a]) (h₀ := X.base) I.ok.mod.kin hm.kp (thn (ha.run pos pins s1 σ H1 _ I1 q) fun us s2 ⟨vs, H2, I2, r, q2⟩ => ⟨I2.kIn, run_fnS (us := .ref a :: us) (vs := .ref a :: vs) F hr hb (hx σ) I2 (.cons rfl r) q2⟩) hst hpl
theorem pe_methT0 {CX : CXT} {pl : Sem Bool} {k : Nat} {fd : FuncData} {ps : List Str} {sp : Sp} {E : L2.St → XK} {ta : TE} (he : PE X o ta) (c : Cls X.K C) (hm : Meth X.K C m f) (F : FnOk X.prog X.w X.K X.mg X.base CX k f fd ps sp) (hr : Room k X.A) (hb : Binds X.K fd ps []) (hx : ∀ σ, PassesAt CX X σ (E σ))
    (ht : eval (.Call (.Attribute o m apos) [] [] pos) X.env = (do
      let ov ← eval o X.env
      standAt apos.atName
      let (f, first) ← holding [ov] (getMethod ov m pl)
      callWith pos f first (backTo pos (starEach [] X.env)) (backToKw pos (keywordEach [] X.env))) := by rfl) :
    PE X (.Call (.Attribute o m apos) [] [] pos) (tMethT C m sp E ta tNil) := by
  refine ⟨fun pins s σ H Q I h => ?_⟩
  refine PySem.W.methodCall_KW (pl := pl) (thn (he.run pins s σ H _ I h) fun u s1 ⟨x, H1, I1, rx, a, dx, fs, ex, ea, l, q⟩ => ?_) ht
  subst ex
  obtain rfl : u = Value.ref a := rx
  refine getmeth_ok I1 ea c hm l ?_
  exact PySem.W.callWith_K0 (first := [.ref a]) I1.kIn hm.kp (run_fnS (us := [.ref a]) (vs := [.ref a]) F hr hb (hx σ) I1 (.cons rfl .nil) q)
def dMeth (C : Addr) (m : Str) (sp : Sp2) (To : TE2) (T : TA2) : TE2 := fun x ds S Q => To x ds S fun d S1 => ∃ a fs, d = .ref a ∧ S1 a = some (.ins C fs) ∧ fs.lookup m = none ∧ T x ds S1 fun vs S2 => sp (.ref a :: vs) S2 Q fun C' S' => x C' ds S'
theorem e_meth {pl : Sem Bool} {k : Nat} {sp : Sp2} (c : Cls X.K C) (hm : Meth X.K C m f) (F : HasA X.prog X.w X.K X.mg X.base k f sp) (hr : Room k X.A) (tk : L2N.Takes X W) (ho : E2 X W o To) (ha : A2 X W (e :: es) TA)
    (hst : starEach (e :: es) X.env = (false, eval e X.env) :: starEach es X.env := by rfl) (hpl : (backTo pos (starEach es X.env)).any (·.1) = false := by rfl)
    (ht : eval (.Call (.Attribute o m apos) (e :: es) [] pos) X.env = (do
      let ov ← eval o X.env
      standAt apos.atName
      let (f, first) ← holding [ov] (getMethod ov m pl)
      callWith pos f first (backTo pos (starEach (e :: es) X.env)) (backToKw pos (keywordEach [] X.env))) := by rfl) :
    E2 X W (.Call (.Attribute o m apos) (e :: es) [] pos) (dMeth C m sp To TA) := by
  obtain ⟨mo, fd, ps, kp, b, F⟩ := F
  refine ⟨fun x ds S Q Q' hq q => ho.mono x ds S _ _ (fun d S1 ⟨a, fs, e1, e2, e3, q⟩ => ⟨a, fs, e1, e2, e3, ha.mono x ds S1 _ _ (fun vs S2 q => mo.q _ _ _ _ _ _ hq (fun _ _ z => z) q) q⟩) q, ?_⟩
  obtain ⟨to, po, ro⟩ := ho.run
  obtain ⟨t, pt, r⟩ := ha.run
  refine ⟨_, pe_methT (E := WE W) (pl := pl) po c hm F hr b (fun σ => L2N.passAt tk σ) pt hst hpl ht, fun x ds S σ H Q h q => ?_⟩
  refine ro x ds S σ H _ h (ho.mono x ds S _ _ (fun d S1 ⟨a, fs, e1, e2, e3, q⟩ u H1 s1 r1 => ?_) q)
  subst e1
  obtain ⟨dx, vs, h1, h2⟩ := s1.wd a _ e2
  refine ⟨a, dx, vs, r1, h1, h2.lookup_none e3, ?_⟩
  refine r x ds S1 σ H1 _ (h.step s1) (ha.mono x ds S1 _ _ (fun ws S2 q us H2 s2 r2 => ?_) q)
  have s12 := s1.trans s2
  refine ⟨S2, .ref a :: ws, s2.wd, ⟨_, _, rfl, r1, r2⟩, mo.q _ _ _ _ _ _ (fun z S3 q3 => q3.step s12) (fun C' S3 q3 H3 s3 => ?_) q⟩
  exact (h.step s12).xe C' ds S3 q3 σ H3 s3 ((h.step s12).rs.mono s3.same)
theorem e_meth0 {pl : Sem Bool} {k : Nat} {sp : Sp2} (c : Cls X.K C) (hm : Meth X.K C m f) (F : HasA X.prog X.w X.K X.mg X.base k f sp) (hr : Room k X.A) (tk : L2N.Takes X W) (ho : E2 X W o To)
    (ht : eval (.Call (.Attribute o m apos) [] [] pos) X.env = (do
      let ov ← eval o X.env
      standAt apos.atName
      let (f, first) ← holding [ov] (getMethod ov m pl)
      callWith pos f first (backTo pos (starEach [] X.env)) (backToKw pos (keywordEach [] X.env))) := by rfl) :
    E2 X W (.Call (.Attribute o m apos) [] [] pos) (dMeth C m sp To dNil) := by
  obtain ⟨mo, fd, ps, kp, b, F⟩ := F
  refine ⟨fun x ds S Q Q' hq q => ho.mono x ds S _ _ (fun d S1 ⟨a, fs, e1, e2, e3, q⟩ => ⟨a, fs, e1, e2, e3, mo.q _ _ _ _ _ _ hq (fun _ _ z => z) q⟩) q, ?_⟩
  obtain ⟨to, po, ro⟩ := ho.run
  refine ⟨_, pe_methT0 (E := WE W) (pl := pl) po c hm F hr b (fun σ => L2N.passAt tk σ) ht, fun x ds S σ H Q h q => ?_⟩
  refine ro x ds S σ H _ h (ho.mono x ds S _ _ (fun d S1 ⟨a, fs, e1, e2, e3, q⟩ u H1 s1 r1 => ?_) q)
  subst e1
  obtain ⟨dx, vs, h1, h2⟩ := s1.wd a _ e2
  refine ⟨a, dx, vs, r1, h1, h2.lookup_none e3, S1, [.ref a], s1.wd, ⟨_, _, rfl, r1, rfl⟩, mo.q _ _ _ _ _ _ (fun z S3 q3 => q3.step s1) (fun C' S3 q3 H3 s3 => ?_) q⟩
  exact (h.step s1).xe C' ds S3 q3 σ H3 s3 ((h.step s1).rs.mono s3.same)
/-! ### len(o) -/
def qLenO (C : Addr) (sp : Sp2) : QC := fun ds S Q => ∃ a fs, ds = [.ref a] ∧ S a = some (.ins C fs) ∧ sp [.ref a] S (fun d S2 => ∃ n : Int, d = .int n ∧ (0 ≤ n ∧ n < 2 ^ 63) ∧ Q (.int n) S2) (fun _ _ => False)
theorem c_lenO {k : Nat} {sp : Sp2} (hm : Meth X.K C "__len__" f) (F : HasA X.prog X.w X.K X.mg X.base k f sp) (hr : Room (k + 1) X.A) : C2 X (.builtin "len") (qLenO C sp) := by
  obtain ⟨mo, fd, ps, kp, b, F⟩ := F
  refine ⟨fun ds S Q Q' hq ⟨a, fs, e1, e2, q⟩ => ⟨a, fs, e1, e2, mo.q _ _ _ _ _ _ (fun d S2 ⟨n, e, h, q⟩ => ⟨n, e, h, hq _ _ q⟩) (fun _ _ z => z) q⟩, fun vs H Q => ∃ a dx fs, vs = [.ref a] ∧ H a = some (.ins C dx fs) ∧ lift X.K sp [.ref a] H (fun v H2 => ∃ n : Int, v = .int n ∧ (0 ≤ n ∧ n < 2 ^ 63) ∧ Q (.int n) H2) (fun _ _ _ => False), ?_, ?_⟩
  · intro pins s σ H vs us Q I rv h
    obtain ⟨a, dx, fs, e1, e2, q⟩ := h
    subst e1
    obtain ⟨u, rfl, ru⟩ : ∃ u, us = [u] ∧ RelV (.ref a) u := by
      cases rv with
      | cons r1 r2 => cases r2; exact ⟨_, rfl, r1⟩
    cases ru
    obtain ⟨mA, J, _⟩ := ins_get I.hok e2
    obtain ⟨od, J, _⟩ := J.look
    obtain ⟨m', hF⟩ := I.fr
    refine PySem.W.len_K hF I.ok.mod.kin J hm.at_ hm.fn ?_
    have e0 : Env0 X.prog X.w X.K X.mg X.base X.A.in1 X.stack s H := by
      have e := I.env0
      exact ⟨e.frames, e.mod, e.bs, e.bsz, e.funs, e.frf, e.hok, e.bare⟩
    have hl := F.len _ _ _ _ q
    refine wpAny_call (codeAny_mono (F.run X.A.in1 X.stack s H ⟨[.ref a], []⟩ [.ref a] [.ref a] _ _ hr.in1 e0 (by
      have := b s [.ref a] I.kIn (by simpa using hl)
      simpa using this) (.cons rfl .nil) q) fun r s' hq => ?_)
    cases r with
    | error e => exact (passF pins σ H s e s' I hq)
    | ok fl =>
      cases fl with
      | ret w =>
        obtain ⟨z, H', I', rz, n, ez, hn, q2⟩ := I.after hq
        subst ez
        obtain ⟨t, rfl⟩ := (show ∃ t, w = Value.int n t from rz)
        exact ⟨hn, ⟨.int n, H', I'.tok _, ⟨_, rfl⟩, q2⟩⟩
      | next => exact False.elim hq
      | brk => exact False.elim hq
      | cont => exact False.elim hq
  · intro ds vs S H Q w r ⟨a, fs, e1, e2, q⟩
    subst e1
    obtain ⟨u, e3, r1⟩ := rps1 r
    obtain ⟨dx, ws, h1, h2⟩ := w a _ e2
    cases (show u = _ from r1)
    refine ⟨a, dx, ws, e3, h1, S, [.ref a], w, ⟨_, _, rfl, rfl, rfl⟩, mo.q _ _ _ _ _ _ (fun d S2 ⟨n, e, hn, q⟩ v H2 s2 r2 => ?_) (fun _ _ z => z.elim) q⟩
    subst e
    exact ⟨n, r2, hn, q _ H2 s2 rfl⟩
end
/-! ### a def of a class -/
section
variable {P : Program} {w : World} {K : PySem.W.Frag} {mg : Str → Option Value} {base : Heap}
theorem fnok_mkQ {x qual : Str} {f : Addr} {fd : FuncData} {params : Arguments} {bd : List Stmt} {scope : Scope} {N ps : List Str} {k : Nat} {sp : Sp2} {T : TS2} (F : FunD K x qual params bd scope [] [] f fd) (S : FnScope N ps scope)
    (len : ∀ ds S Q E, sp ds S Q E → ds.length = ps.length) (hp : Pure N.length sp T)
    (hb2 : ∀ (cdv : Value) (A : Around) (outer : List Env) (s : Shared) (H : Hp) (E : XK), Room k (A.deeper (envOfC qual scope s.heap.objs.size f cdv)) → B2 (cxOf (L2N.CX P w) P w K mg base N qual scope f cdv A outer s H E) (fun cls d _ H => E cls d H) bd T) :
    FnOk P w K mg base (L2N.CX P w) (k + 1) f fd ps (lift K sp) := by
  refine F.ok S (fun vs H Q E ⟨S1, ds, w1, r1, h⟩ => by rw [r1.length]; exact len _ _ _ _ h) (fun cdv A outer s H vs Q E hr ⟨S1, ds, w1, r1, h⟩ => ?_)
  have hT := hb2 cdv A outer s H E hr
  obtain ⟨t, p, r⟩ := hT.run
  refine ⟨t, p, r (fun C _ S' => ∀ H', Step K S1 H S' H' → E (.ref C) none H') (start2 N.length ds) S1 (L2.start N vs) H _ ⟨start2_rs r1, w1, fun C ds' S' q σ' H' s' _ => q H' s'⟩ ?_⟩
  refine hT.mono _ _ _ { nx := fun _ S' => up K S1 H Q .non S', rt := up K S1 H Q } _ ⟨fun ds' S' q σ' H' s' rs' => q _ H' s' rfl, fun d S' q => q, fun _ _ q => q.elim, fun _ _ q => q.elim⟩ (hp ds S1 (up K S1 H Q) _ ⟨fun d S' p c hp q => up_frg hp q, fun S' p l hp q => up_frz hp q⟩ h)
theorem HasA.mk {x qual : Str} {f : Addr} {fd : FuncData} {params : Arguments} {bd : List Stmt} {scope : Scope} {N ps : List Str} {k : Nat} {sp : Sp2} {T : TS2} (F : FunD K x qual params bd scope [] [] f fd) (S : FnScope N ps scope) (hb : Binds K fd ps [])
    (mono : sp.Mono) (len : ∀ ds S Q E, sp ds S Q E → ds.length = ps.length) (hp : Pure N.length sp T)
    (hb2 : ∀ (cdv : Value) (A : Around) (outer : List Env) (s : Shared) (H : Hp) (E : XK), Room k (A.deeper (envOfC qual scope s.heap.objs.size f cdv)) → B2 (cxOf (L2N.CX P w) P w K mg base N qual scope f cdv A outer s H E) (fun cls d _ H => E cls d H) bd T) :
    HasA P w K mg base (k + 1) f sp := ⟨mono, fd, ps, F.kp, hb, fnok_mkQ F S len hp hb2⟩
end
end Sc

/-! == by an own __eq__, isinstance with an own class -/
namespace Sc
open PySem PySem.Spec PyProof.Rows L2 Sm
section
variable {X : Cx} {W : WX} {C f : Addr} {e : Expr} {Te : TE2} {pos : Pos}
/-- the type of an instance, of a tuple -/
theorem looks_ins {pins : List (Addr × Obj)} {σ : L2.St} {H : Hp} {s : Shared} {b dy : Addr} {gs : List (Str × V)} (I : Inv X pins σ H s) (h : H b = some (.ins C dy gs)) : PySem.W.Looks (model X.prog X.w) s.heap (typeOf (.ref b)) (.ref C) := by
  obtain ⟨mB, J, _⟩ := ins_get I.hok h
  obtain ⟨od, J, _⟩ := J.look
  exact J.type
theorem looks_tup {pins : List (Addr × Obj)} {σ : L2.St} {H : Hp} {s : Shared} {b : Addr} {xs : List V} (I : Inv X pins σ H s) (h : SqT X.K H b xs) : PySem.W.Looks (model X.prog X.w) s.heap (typeOf (.ref b)) (.type "tuple") := by
  obtain ⟨its, r, ⟨o, e, c, _⟩, z⟩ := I.tuple h
  exact fun A Q E s k q => wpAny_typeOf_ref (k _ _ e) (by rw [c]; exact q)
def qEqO (C : Addr) (sp : Sp2) : QO := fun d e S Q => ∃ a fs, d = .ref a ∧ S a = some (.ins C fs) ∧ ((∃ b gs, e = .ref b ∧ S b = some (.ins C gs)) ∨ ∃ es, e = .tup es) ∧ sp [.ref a, e] S (fun z S2 => ∃ r, z = .bl r ∧ Q (.bl r) S2) (fun _ _ => False)
theorem o_eqO {k : Nat} {sp : Sp2} (hm : Meth X.K C "__eq__" f) (ht : PySem.W.subIn X.K (.type "tuple") (.ref C) = some false) (F : HasA X.prog X.w X.K X.mg X.base k f sp) (hr : Room k X.A) : O2 X (compareOp .Eq) (qEqO C sp) := by
  obtain ⟨mo, fd, ps, kp, b, F⟩ := F
  refine ⟨fun d e S Q Q' hq ⟨a, fs, e1, e2, e3, q⟩ => ⟨a, fs, e1, e2, e3, mo.q _ _ _ _ _ _ (fun z S2 ⟨r, e, q⟩ => ⟨r, e, hq _ _ q⟩) (fun _ _ z => z) q⟩, fun x y H Q => ∃ a dx fs, x = .ref a ∧ H a = some (.ins C dx fs) ∧ ((∃ b dy gs, y = .ref b ∧ H b = some (.ins C dy gs)) ∨ ∃ b xs, y = .ref b ∧ SqT X.K H b xs) ∧ lift X.K sp [x, y] H (fun v H2 => ∃ r, v = .bl r ∧ Q (.bl r) H2) (fun _ _ _ => False), ?_, ?_⟩
  · intro pins s σ H x y v u Q I rx ry ⟨a, dx, fs, e1, e2, e3, q⟩
    subst e1
    cases rx
    obtain ⟨mA, J, _⟩ := ins_get I.hok e2
    obtain ⟨od, J, _⟩ := J.look
    obtain ⟨m', hF⟩ := I.fr
    obtain ⟨tb, lb, nf⟩ : ∃ tb, PySem.W.Looks (model X.prog X.w) s.heap (typeOf u) tb ∧ PySem.W.notFirst X.K C tb = true := by
      rcases e3 with ⟨b, dy, gs, rfl, e3⟩ | ⟨b, xs, rfl, e3⟩
      · cases ry
        exact ⟨_, looks_ins I e3, by simp [PySem.W.notFirst]⟩
      · cases ry
        exact ⟨_, looks_tup I e3, by simp [PySem.W.notFirst, ht]⟩
    show wpAny (model X.prog X.w) X.A (richCompare .Eq (.ref a) u) (EP X pins σ Q) X.xe s
    refine PySem.W.cmp_K (op := .Eq) hr.units0 hF I.ok.mod.kin J lb nf hm.at_ hm.fn ?_
    have e0 := I.env0
    have hl := F.len _ _ _ _ q
    have r2 : Vals [V.ref a, y] [Value.ref a, u] := .cons rfl (.cons ry .nil)
    refine wpAny_call (codeAny_mono (F.run X.A X.stack s H ⟨[.ref a, u], []⟩ [.ref a, u] [.ref a, y] _ _ hr e0 (by
      have := b s [.ref a, u] I.kIn (by simpa using hl)
      simpa using this) r2 q) fun r s' hq => ?_)
    cases r with
    | error e => exact (passF pins σ H s e s' I hq)
    | ok fl =>
      cases fl with
      | ret w =>
        obtain ⟨z, H', I', rz, r, ez, q2⟩ := I.after hq
        subst ez
        cases (show w = Value.bool r from rz)
        exact ⟨.bl r, H', I', rfl, q2⟩
      | next => exact False.elim hq
      | brk => exact False.elim hq
      | cont => exact False.elim hq
  · intro d e v u S H Q w r1 r2 ⟨a, fs, e1, e2, e3, q⟩
    subst e1
    obtain ⟨dx, ws, h1, h2⟩ := w a _ e2
    cases (show v = _ from r1)
    refine ⟨a, dx, ws, rfl, h1, ?_, S, [.ref a, e], w, ⟨_, _, rfl, rfl, Rps.one r2⟩, mo.q _ _ _ _ _ _ (fun d S2 ⟨r, e, q⟩ v H2 s2 r2 => ?_) (fun _ _ z => z.elim) q⟩
    · rcases e3 with ⟨b, gs, rfl, e3⟩ | ⟨es, rfl⟩
      · obtain ⟨dy, us, g1, g2⟩ := w b _ e3
        cases (show u = _ from r2)
        exact .inl ⟨b, dy, us, rfl, g1⟩
      · obtain ⟨b, xs, e4, g1, g2⟩ := r2
        subst e4
        exact .inr ⟨b, xs, rfl, sqT_mono wo_le g1⟩
    · subst e
      exact ⟨r, r2, q _ H2 s2 rfl⟩
/-- isinstance(x, C), C a class of the module -/
structure IsO (K : PySem.W.Frag) (C : Addr) : Prop where
  ha : PySem.W.findIn K (.ref C) "__class__" = some (some (.builtin "object.__class__"))
  hn : PySem.W.specialIn K (.builtin "object.__class__") "__get__" = some (some (.builtin "getset_descriptor.__get__"))
  htk : PySem.W.takesIn K (.builtin "object.__class__") = some true
  hm : PySem.W.mroIn K C (.type "object") = some true
  yes : PySem.W.kitOne K (.ref C) (.ref C) = some true
  no : PySem.W.kitOne K (.type "tuple") (.ref C) = some false
  tt : PySem.W.subIn K (.type "tuple") (.ref C) = some false
/-- told by a computation -/
def isoB (K : PySem.W.Frag) (C : Addr) : Bool := decide (PySem.W.findIn K (.ref C) "__class__" = some (some (.builtin "object.__class__"))) && (decide (PySem.W.specialIn K (.builtin "object.__class__") "__get__" = some (some (.builtin "getset_descriptor.__get__"))) && (decide (PySem.W.takesIn K (.builtin "object.__class__") = some true) && (decide (PySem.W.mroIn K C (.type "object") = some true) &&
  (decide (PySem.W.kitOne K (.ref C) (.ref C) = some true) && (decide (PySem.W.kitOne K (.type "tuple") (.ref C) = some false) && decide (PySem.W.subIn K (.type "tuple") (.ref C) = some false))))))
theorem isoB_ok {K : PySem.W.Frag} {C : Addr} (h : isoB K C = true) : IsO K C := by
  unfold isoB at h
  simp only [Bool.and_eq_true, decide_eq_true_eq] at h
  obtain ⟨h1, h2, h3, h4, h5, h6, h7⟩ := h
  exact ⟨h1, h2, h3, h4, h5, h6, h7⟩
def dIsO (C : Addr) (Te : TE2) : TE2 := fun x ds S Q => Te x ds S fun d S1 => ∃ b, ((b = true ∧ ∃ a fs, d = .ref a ∧ S1 a = some (.ins C fs)) ∨ (b = false ∧ ∃ es, d = .tup es)) ∧ Q (.bl b) S1
theorem e_isO {y : Str} {p q : Pos} (O : IsO X.K C) (c : Cls X.K C) (he : E2 X W e Te) (hm : X.mg "isinstance" = none) (hy : X.mg y = some (.ref C)) (hg : Gl X "isinstance" := by rfl) (hg2 : Gl X y := by rfl) (hd : (y == ("__debug__" : Str)) = false := by decide)
    (n1 : starEach [e, .Name y q] X.env = (false, eval e X.env) :: starEach [.Name y q] X.env := by rfl) (n2 : starEach [.Name y q] X.env = (false, eval (.Name y q) X.env) :: starEach [] X.env := by rfl) (hpl : (backTo pos (starEach [.Name y q] X.env)).any (·.1) = false := by rfl) :
    E2 X W (.Call (.Name "isinstance" p) [e, .Name y q] [] pos) (dIsO C Te) := ⟨fun x ds S Q Q' h q => he.mono x ds S _ _ (fun d S1 ⟨b, e1, q⟩ => ⟨b, e1, h _ _ q⟩) q, by
  obtain ⟨t, pt, r⟩ := he.run
  refine ⟨_, pe_callB call_isi hg hm (by decide +kernel) (pa_cons pt (pa_cons (pe_glob (v := .ref C) hg2 hy rfl hd) pa_nil n2) n1) (by decide) (by decide) n1 hpl, fun x ds S σ H Q h q => r x ds S σ H _ h (he.mono x ds S _ _ (fun d S1 ⟨b, e1, q⟩ v H1 s1 r1 => ?_) q)⟩
  have ty : ∃ t, TyX X.K H1 v t ∧ PySem.W.kitOne X.K t (.ref C) = some b := by
    rcases e1 with ⟨rfl, a, fs, rfl, e2⟩ | ⟨rfl, es, rfl⟩
    · obtain ⟨dx, ws, h1, h2⟩ := s1.wd a _ e2
      cases (show v = _ from r1)
      exact ⟨_, .base (.ins h1 c O.ha O.hn O.htk O.hm), O.yes⟩
    · obtain ⟨a, xs, e3, g1, g2⟩ := r1
      subst e3
      rcases sqT_mono wo_le g1 with (g | ⟨o, g⟩) | ⟨o, _, _, g, cc, _⟩
      · exact ⟨_, .base (.tup g), O.no⟩
      · exact ⟨_, .fTuple g, O.no⟩
      · exact ⟨_, .kTuple g cc, O.no⟩
  obtain ⟨t, ty, kk⟩ := ty
  exact ⟨v, .ref C, t, .ref C, b, rfl, .own C, ty, kk, q _ H1 s1 rfl⟩⟩
end
theorem kit_ne {K : PySem.W.Frag} {a b c : Addr} (h1 : PySem.W.kitOne K (.ref a) (.ref c) = some true) (h2 : PySem.W.kitOne K (.ref b) (.ref c) = some false) : a ≠ b := fun e => by
  rw [e, h2] at h1
  cases h1
end Sc

namespace Sc
open PySem PySem.Spec PyProof.Rows L2 Sm
local macro_rules | `(tactic| walk_at "wp") => `(tactic| simp only [dRevT, dRevL, dEnumT, qRepA, qRepL, qCatL, qIn, qNotIn, dListR1, dListR2, dRet, dSeq, dIfS, dNext, dDrop, dSet, dAsg, dPar, dPar3, dAug, dVar, dC, dOp, dUn, dTest, dTru, dNot, dAnd, dOr, dAndV, dOrV, dNotV, dIf, dChain, dCall, dCons, dNil, dCB, dTup, dLst, dIsi, dStore, kSub, dYes, dFor, dIt, dItL, dRng1, dRng2, dSl, dNoP, dPart, dMt, dRaise,
  qI, qI0, qAdd, qSub, qMul, qFdiv, qFdivN, qMod, qPow, qLt, qLe, qGt, qGe, qEq, qNe, qIsN, qNotN, qIsB, qNotB, qNeg, qAbs, qMax2, qMin2, qLen, qIx, qTupOf, qLstOf, qSlT, qSlL, qCatT, qRepT, kName, kTup, kCons, kNil, start2, List.map_cons, List.map_nil, List.length_cons, List.length_nil, List.replicate, List.cons_append, List.nil_append, List.append_nil,
  List.getElem?_cons_zero, List.getElem?_cons_succ, List.set_cons_zero, List.set_cons_succ, Option.some.injEq, exists_eq_left', exists_eq_left, Dt.int.injEq, Dt.bl.injEq, Dt.ref.injEq, Dt.tup.injEq, Dt.lst.injEq, Nat.sub_zero, Nat.zero_add, Nat.reduceAdd, Nat.reduceSub, asQ_tup, asQ_lst, asL_lst, asT_tup, asQ_put, asL_put, exists_and_left, List.cons.injEq, and_true, isN_int, isN_non, truD_int, truD_non, at_0, at_1, at_2, ix20, ix21, Cells.put_same, Cells.put_put, Cell.lst.injEq, sEq_ii, sEq_bb, sEq_ss, sEq_nn, sEq_ni, sEq_in, true_and, decide_eq_true_eq, and_assoc])

/-! ### a view: its length, its slices, what was shown ahead of them and after each -/
def vw (cs : List Sl) (n : Int) : List Dt := (List.range (cs.length + 1)).map fun i => dPg (shown (cs.take i) n)
theorem vw_len {cs : List Sl} {n : Int} : (vw cs n).length = cs.length + 1 := by
  unfold vw
  rw [List.length_map, List.length_range]
theorem vw_nil {n : Int} : vw [] n = [dPg (0, 1, n)] := rfl
theorem vw_snoc {cs : List Sl} {s : Sl} {n : Int} : vw (cs ++ [s]) n = vw cs n ++ [dPg (shown (cs ++ [s]) n)] := by
  unfold vw
  rw [List.length_append, List.length_singleton, List.range_succ, List.map_append]
  congr 1
  · refine List.map_congr_left fun i hi => ?_
    rw [List.take_append_of_le_length (by have := List.mem_range.mp hi; omega)]
  · show [dPg (shown ((cs ++ [s]).take (cs.length + 1)) n)] = _
    rw [List.take_of_length_le (by rw [List.length_append, List.length_singleton]; omega)]
theorem vw_last {cs : List Sl} {n : Int} : atI (vw cs n) (-1) = some (dPg (shown cs n)) := by
  rcases List.eq_nil_or_concat cs with rfl | ⟨l, a, rfl⟩
  · rfl
  · rw [List.concat_eq_append, vw_snoc]
    exact at_last
theorem vw_drop {cs : List Sl} {n : Int} (h : cs ≠ []) : (vw cs n).dropLast = vw cs.dropLast n := by
  rcases List.eq_nil_or_concat cs with rfl | ⟨l, a, rfl⟩
  · exact absurd rfl h
  · rw [List.concat_eq_append, vw_snoc, List.dropLast_concat, List.dropLast_concat]
theorem shown_snoc {cs : List Sl} {s : Sl} {n : Int} : shown (cs ++ [s]) n = Sm.applied s (shown cs n) := by
  rw [shown_app]
  rfl
structure VAt (C : Addr) (S : Cells) (p s v : Addr) (n : Int) (cs : List Sl) : Prop where
  o : S p = some (.ins C [("length", .int n), ("slices", .ref s), ("views", .ref v)])
  l : S s = some (.lst (cs.map dS))
  w : S v = some (.lst (vw cs n))
theorem VAt.ps {C : Addr} {S : Cells} {p s v : Addr} {n : Int} {cs : List Sl} (h : VAt C S p s v n cs) : p ≠ s := fun e => by
  have := h.o
  rw [e, h.l] at this
  cases this
theorem VAt.pv {C : Addr} {S : Cells} {p s v : Addr} {n : Int} {cs : List Sl} (h : VAt C S p s v n cs) : p ≠ v := fun e => by
  have := h.o
  rw [e, h.w] at this
  cases this
theorem VAt.sv {C : Addr} {S : Cells} {p s v : Addr} {n : Int} {cs : List Sl} (h : VAt C S p s v n cs) : s ≠ v := fun e => by
  have := h.l
  rw [e, h.w] at this
  have e2 := congrArg (fun z => match z with | some (Cell.lst ds) => ds.length | _ => 0) this
  have e2 : (vw cs n).length = (cs.map dS).length := e2
  rw [vw_len, List.length_map] at e2
  omega
/-- the same view in a store that agrees on it -/
theorem VAt.of {C : Addr} {S S' : Cells} {p s v : Addr} {n : Int} {cs : List Sl} (h : VAt C S p s v n cs) (h1 : S' p = S p) (h2 : S' s = S s) (h3 : S' v = S v) : VAt C S' p s v n cs := ⟨h1.trans h.o, h2.trans h.l, h3.trans h.w⟩
theorem lk_eq {f : Str} {d : Dt} {r : List (Str × Dt)} : List.lookup f ((f, d) :: r) = some d := by
  show (match f == f with | true => some d | false => r.lookup f) = some d
  rw [beq_self_eq_true]
theorem lk_ne {f g : Str} {d : Dt} {r : List (Str × Dt)} (h : (f == g) = false) : List.lookup f ((g, d) :: r) = r.lookup f := by
  show (match f == g with | true => some d | false => r.lookup f) = r.lookup f
  rw [h]
theorem ne_ls : (("length" : Str) == "slices") = false := by decide +kernel
theorem ne_lv : (("length" : Str) == "views") = false := by decide +kernel
theorem ne_sl : (("slices" : Str) == "length") = false := by decide +kernel
theorem ne_sv : (("slices" : Str) == "views") = false := by decide +kernel
theorem ne_vl : (("views" : Str) == "length") = false := by decide +kernel
theorem ne_vs : (("views" : Str) == "slices") = false := by decide +kernel
section
variable {n s v : Dt}
theorem fld_length : List.lookup ("length" : Str) [(("length" : Str), n), ("slices", s), ("views", v)] = some n := lk_eq
theorem fld_slices : List.lookup ("slices" : Str) [(("length" : Str), n), ("slices", s), ("views", v)] = some s := by rw [lk_ne ne_sl, lk_eq]
theorem fld_views : List.lookup ("views" : Str) [(("length" : Str), n), ("slices", s), ("views", v)] = some v := by rw [lk_ne ne_vl, lk_ne ne_vs, lk_eq]
theorem fld_no {m : Str} (h1 : (m == "length") = false) (h2 : (m == "slices") = false) (h3 : (m == "views") = false) : List.lookup m [(("length" : Str), n), ("slices", s), ("views", v)] = none := by
  rw [lk_ne h1, lk_ne h2, lk_ne h3]
  rfl
theorem no_slice : List.lookup ("slice" : Str) [(("length" : Str), n), ("slices", s), ("views", v)] = none := fld_no (by decide +kernel) (by decide +kernel) (by decide +kernel)
theorem no_undo : List.lookup ("undo" : Str) [(("length" : Str), n), ("slices", s), ("views", v)] = none := fld_no (by decide +kernel) (by decide +kernel) (by decide +kernel)
theorem no_shown : List.lookup ("shown" : Str) [(("length" : Str), n), ("slices", s), ("views", v)] = none := fld_no (by decide +kernel) (by decide +kernel) (by decide +kernel)
theorem no_place : List.lookup ("place" : Str) [(("length" : Str), n), ("slices", s), ("views", v)] = none := fld_no (by decide +kernel) (by decide +kernel) (by decide +kernel)
end
theorem putD_ne' {f g : Str} {v x : Dt} {r : List (Str × Dt)} (h : (f == g) = false) : putD f v ((g, x) :: r) = (g, x) :: putD f v r := putD_ne fun e => by
  rw [e, beq_self_eq_true] at h
  cases h
/-! ### the methods -/
def sp_View_init (C : Addr) : Sp2 := fun ds S Q _ => ∃ p n, ds = [.ref p, .int n] ∧ S p = some (.ins C []) ∧ (0 ≤ n ∧ n ≤ 1000000000000000) ∧ ∀ S' s v, VAt C S' p s v n [] → S s = none → S v = none → (∀ a, a ≠ p → a ≠ s → a ≠ v → S' a = S a) → Q .non S'
theorem View_init_mono {C : Addr} : (sp_View_init C).Mono := ⟨fun ds S Q Q' E E' h _ ⟨p, n, e, o, b, q⟩ => ⟨p, n, e, o, b, fun S' s v h1 h2 h3 h4 => h _ _ (q S' s v h1 h2 h3 h4)⟩⟩
theorem View_init_lenD {C : Addr} : ∀ ds S Q E, sp_View_init C ds S Q E → ds.length = 2 := fun ds S Q E ⟨p, n, e, _⟩ => by rw [e]; rfl
def T_View___init__ (a_View : Addr) : TS2 :=
  (dSeq (dDrop (dCall sp_require_length (dCons (dVar 1) (dCons (dC (.int 1000000000000000)) dNil))))
  (dSeq (dSetF a_View "length" (dVar 0) (dVar 1))
  (dSeq (dSetF a_View "slices" (dVar 0) (dLst dNil))
  (dSetF a_View "views" (dVar 0) (dLst (dCons (dTup (dCons (dC (.int 0)) (dCons (dC (.int 1)) (dCons (dVar 1) dNil)))) dNil))))))
theorem pure_View_init (C : Addr) : Pure 2 (sp_View_init C) (T_View___init__ C) := by
  rintro ds S Q E frg ⟨p, n, rfl, o, ⟨b0, b1⟩, q⟩
  unfold T_View___init__ dSetF
  walk_at "wp"
  refine ⟨(.int n, 1000000000000000), rfl, len_req b0 b1, [], o, by decide, by decide, .inr fun s hs => ?_⟩
  have hps : p ≠ s := fun e => by
    rw [e, Cells.put_same] at hs
    cases hs
  have hs0 : S s = none := by
    rw [Cells.put_ne hps.symm] at hs
    exact hs
  refine ⟨_, by rw [Cells.put_ne hps]; exact Cells.put_same, by show 1 < 1000; decide, by decide, by decide, .inr fun v hv => ?_⟩
  have hpv : p ≠ v := fun e => by
    rw [e, Cells.put_same] at hv
    cases hv
  have hsv : s ≠ v := fun e => by
    rw [Cells.put_ne hpv.symm, ← e, Cells.put_same] at hv
    cases hv
  have hv0 : S v = none := by
    rw [Cells.put_ne hpv.symm, Cells.put_ne hsv.symm, Cells.put_ne hpv.symm] at hv
    exact hv
  refine ⟨_, by rw [Cells.put_ne hpv]; exact Cells.put_same, ?_, q _ s v ⟨?_, ?_, ?_⟩ hs0 hv0 fun a h1 h2 h3 => ?_⟩
  · rw [putD_nil, putD_ne' ne_sl, putD_nil]
    show 2 < 1000
    decide
  · rw [Cells.put_same, putD_nil, putD_ne' ne_sl, putD_nil, putD_ne' ne_vl, putD_ne' ne_vs, putD_nil]
  · rw [Cells.put_ne hps.symm, Cells.put_ne hsv, Cells.put_ne hps.symm, Cells.put_same]
    rfl
  · rw [Cells.put_ne hpv.symm, Cells.put_same]
    rfl
  · rw [Cells.put_ne h1, Cells.put_ne h3, Cells.put_ne h1, Cells.put_ne h2, Cells.put_ne h1]
def sp_View_len (C : Addr) : Sp2 := fun ds S Q _ => ∃ p s v n cs, ds = [.ref p] ∧ VAt C S p s v n cs ∧ Q (.int cs.length) S
theorem View_len_mono {C : Addr} : (sp_View_len C).Mono := ⟨fun ds S Q Q' E E' h _ ⟨p, s, v, n, cs, e, w, q⟩ => ⟨p, s, v, n, cs, e, w, h _ _ q⟩⟩
theorem View_len_lenD {C : Addr} : ∀ ds S Q E, sp_View_len C ds S Q E → ds.length = 1 := fun ds S Q E ⟨p, s, v, n, cs, e, _⟩ => by rw [e]; rfl
def T_View___len__ (a_View : Addr) : TS2 :=
  (dRet (dCB qLen (dCons (dFld a_View "slices" (dVar 0)) dNil)))
theorem pure_View_len (C : Addr) : Pure 1 (sp_View_len C) (T_View___len__ C) := by
  rintro ds S Q E frg ⟨p, s, v, n, cs, rfl, w, q⟩
  unfold T_View___len__ dFld
  walk_at "wp"
  refine ⟨_, w.o, _, fld_slices, _, asQ_ref w.l, ?_⟩
  rw [List.length_map]
  exact q
def sp_View_slice (C aI aT : Addr) : Sp2 := fun ds S Q E => ∃ p s v n cs a b c, ds = [.ref p, a, b, c] ∧ VAt C S p s v n cs ∧ cs.length ≤ 60 ∧ (∀ s, s ∈ cs → okS s) ∧ (0 ≤ n ∧ n ≤ 1000000000000000) ∧ (Nr a ∧ Nr b ∧ Nr c) ∧
  ((isSlc (.tup [a, b, c]) = false ∧ E aI S) ∨ (isSlc (.tup [a, b, c]) = true ∧ cs.length = 60 ∧ E aT S) ∨
    ∃ one, dS one = .tup [a, b, c] ∧ okS one ∧ cs.length < 60 ∧ ∀ S', VAt C S' p s v n (cs ++ [one]) → (∀ x, x ≠ s → x ≠ v → S' x = S x) → Q .non S')
theorem View_slice_mono {C aI aT : Addr} : (sp_View_slice C aI aT).Mono := ⟨fun ds S Q Q' E E' h h' ⟨p, s, v, n, cs, a, b, c, e, w, l, o, k, r, q⟩ => ⟨p, s, v, n, cs, a, b, c, e, w, l, o, k, r, q.imp (fun q => ⟨q.1, h' _ _ q.2⟩) fun q => q.imp (fun q => ⟨q.1, q.2.1, h' _ _ q.2.2⟩) fun ⟨one, e1, o1, l1, q⟩ => ⟨one, e1, o1, l1, fun S' h1 h2 => h _ _ (q S' h1 h2)⟩⟩⟩
theorem View_slice_lenD {C aI aT : Addr} : ∀ ds S Q E, sp_View_slice C aI aT ds S Q E → ds.length = 4 := fun ds S Q E ⟨p, s, v, n, cs, a, b, c, e, _⟩ => by rw [e]; rfl
def T_View_slice (a_InvalidSlice : Addr) (a_TooMany : Addr) (a_View : Addr) : TS2 :=
  (dSeq (dSet 4 (dTup (dCons (dVar 1) (dCons (dVar 2) (dCons (dVar 3) dNil)))))
  (dSeq (dIfS (dNot (dTest (dCall sp_is_slice (dCons (dVar 4) dNil)))) (dRaise a_InvalidSlice) dNext)
  (dSeq (dIfS (dTest (dOp qEq (dCB qLen (dCons (dFld a_View "slices" (dVar 0)) dNil)) (dC (.int 60)))) (dRaise a_TooMany) dNext)
  (dSeq (dDrop (dMt qAppend (dFld a_View "slices" (dVar 0)) (dCons (dVar 4) dNil)))
  (dDrop (dMt qAppend (dFld a_View "views" (dVar 0)) (dCons (dCall sp_applied (dCons (dVar 4) (dCons (dOp qIx (dFld a_View "views" (dVar 0)) (dUn qNeg (dC (.int 1)))) dNil))) dNil)))))))
theorem pure_View_slice (aI aT C : Addr) : Pure 5 (sp_View_slice C aI aT) (T_View_slice aI aT C) := by
  rintro ds S Q E frg ⟨p, s, v, n, cs, a, b, c, rfl, w, hl, ho, ⟨n0, n1⟩, ⟨ra, rb, rc⟩, q⟩
  unfold T_View_slice dFld
  walk_at "wp"
  have nr : Nr (.tup [a, b, c]) := .tup fun d h => by
    simp only [List.mem_cons, List.not_mem_nil, or_false] at h
    rcases h with rfl | rfl | rfl <;> assumption
  refine ⟨by decide, .tup [a, b, c], rfl, nr, _, rfl, ?_⟩
  rcases q with ⟨h, q⟩ | ⟨h, h60, q⟩ | ⟨one, e1, o1, l1, q⟩
  · rw [h]
    exact iteP rfl q
  · rw [h]
    exact iteN (by decide) ⟨_, w.o, _, fld_slices, _, asQ_ref w.l, iteP (by rw [List.length_map]; omega) q⟩
  · have h : isSlc (.tup [a, b, c]) = true := by rw [← e1]; exact dS_isSlc o1
    rw [h]
    refine iteN (by decide) ⟨_, w.o, _, fld_slices, _, asQ_ref w.l, iteN (by rw [List.length_map]; omega) ?_⟩
    have cn := shownF_count cs (0, 1, n) ho n0
    have hlen : (cs.map dS).length < 100000 := by rw [List.length_map]; omega
    have gp : ∀ c, (S.put s c) p = S p := fun c => Cells.put_ne w.ps
    have gv : ∀ c, (S.put s c) v = S v := fun c => Cells.put_ne w.sv.symm
    refine ⟨_, w.o, _, fld_slices, ⟨_, asL_ref w.l⟩, s, cs.map dS, _, rfl, rfl, w.l, hlen, ?_⟩
    refine ⟨_, (gp _).trans w.o, _, fld_views, ⟨_, asL_ref ((gv _).trans w.w)⟩, _, (gp _).trans w.o, _, fld_views, _, asQ_ref ((gv _).trans w.w), _, vw_last, (one, shown cs n), by rw [← e1], ⟨o1, cn.1, by have := cn.2; show (shown cs n).2.2 ≤ 10 ^ 18; exact Int.le_trans this (Int.le_trans n1 (by decide))⟩, v, vw cs n, _, rfl, rfl, (gv _).trans w.w, by rw [vw_len]; omega, q _ ⟨?_, ?_, ?_⟩ fun x h1 h2 => ?_⟩
    · rw [Cells.put_ne w.pv, Cells.put_ne w.ps]
      exact w.o
    · rw [Cells.put_ne w.sv, Cells.put_same, List.map_append, List.map_singleton, e1]
    · rw [Cells.put_same, vw_snoc, shown_snoc]
    · rw [Cells.put_ne h2, Cells.put_ne h1]
def sp_View_undo (C aN : Addr) : Sp2 := fun ds S Q E => ∃ p s v n cs, ds = [.ref p] ∧ VAt C S p s v n cs ∧ ((cs = [] ∧ E aN S) ∨ (cs ≠ [] ∧ ∀ S', VAt C S' p s v n cs.dropLast → (∀ x, x ≠ s → x ≠ v → S' x = S x) → Q .non S'))
theorem View_undo_mono {C aN : Addr} : (sp_View_undo C aN).Mono := ⟨fun ds S Q Q' E E' h h' ⟨p, s, v, n, cs, e, w, q⟩ => ⟨p, s, v, n, cs, e, w, q.imp (fun q => ⟨q.1, h' _ _ q.2⟩) fun q => ⟨q.1, fun S' h1 h2 => h _ _ (q.2 S' h1 h2)⟩⟩⟩
theorem View_undo_lenD {C aN : Addr} : ∀ ds S Q E, sp_View_undo C aN ds S Q E → ds.length = 1 := fun ds S Q E ⟨p, s, v, n, cs, e, _⟩ => by rw [e]; rfl
def T_View_undo (a_NothingToUndo : Addr) (a_View : Addr) : TS2 :=
  (dSeq (dIfS (dNot (dTru (dFld a_View "slices" (dVar 0)))) (dRaise a_NothingToUndo) dNext)
  (dSeq (dDrop (dMt qPop (dFld a_View "slices" (dVar 0)) dNil))
  (dDrop (dMt qPop (dFld a_View "views" (dVar 0)) dNil))))
theorem pure_View_undo (aN C : Addr) : Pure 1 (sp_View_undo C aN) (T_View_undo aN C) := by
  rintro ds S Q E frg ⟨p, s, v, n, cs, rfl, w, q⟩
  unfold T_View_undo dFld
  walk_at "wp"
  have tru : truD S (.ref s) = some (!(cs.map dS).isEmpty) := by
    show (asQ S (.ref s)).map (fun ds => !ds.isEmpty) = _
    rw [asQ_ref w.l]
    rfl
  refine ⟨_, w.o, _, fld_slices, _, tru, ?_⟩
  rcases q with ⟨rfl, q⟩ | ⟨hne, q⟩
  · exact iteP rfl q
  · have ie : (cs.map dS).isEmpty = false := by
      cases cs with
      | nil => exact absurd rfl hne
      | cons a l => rfl
    have gp : ∀ c, (S.put s c) p = S p := fun c => Cells.put_ne w.ps
    have gv : ∀ c, (S.put s c) v = S v := fun c => Cells.put_ne w.sv.symm
    rw [ie]
    have l1 : ∀ l : List Dt, l ≠ [] → ∃ z, l[l.length - 1]? = some z := fun l h => ⟨l[l.length - 1]'(by have := List.length_pos_iff.mpr h; omega), List.getElem?_eq_getElem _⟩
    obtain ⟨z1, e1⟩ := l1 (cs.map dS) (fun e => hne (List.map_eq_nil_iff.mp e))
    obtain ⟨z2, e2⟩ := l1 (vw cs n) (fun e => by have := congrArg List.length e; rw [vw_len] at this; exact absurd this (by simp))
    refine iteN (by decide) ⟨_, w.o, _, fld_slices, ⟨_, asL_ref w.l⟩, s, _, z1, rfl, rfl, w.l, e1, _, (gp _).trans w.o, _, fld_views, ⟨_, asL_ref ((gv _).trans w.w)⟩, v, _, z2, rfl, rfl, (gv _).trans w.w, e2, q _ ⟨?_, ?_, ?_⟩ fun x h1 h2 => ?_⟩
    · rw [Cells.put_ne w.pv, Cells.put_ne w.ps]
      exact w.o
    · rw [Cells.put_ne w.sv, Cells.put_same, List.dropLast_eq_take, List.dropLast_eq_take, List.map_take, List.length_map]
    · rw [Cells.put_same, vw_drop hne]
    · rw [Cells.put_ne h2, Cells.put_ne h1]
def sp_View_shown (C : Addr) : Sp2 := fun ds S Q _ => ∃ p s v n cs, ds = [.ref p] ∧ VAt C S p s v n cs ∧ Q (dCl (clean cs n)) S
theorem View_shown_mono {C : Addr} : (sp_View_shown C).Mono := ⟨fun ds S Q Q' E E' h _ ⟨p, s, v, n, cs, e, w, q⟩ => ⟨p, s, v, n, cs, e, w, h _ _ q⟩⟩
theorem View_shown_lenD {C : Addr} : ∀ ds S Q E, sp_View_shown C ds S Q E → ds.length = 1 := fun ds S Q E ⟨p, s, v, n, cs, e, _⟩ => by rw [e]; rfl
def T_View_shown (a_View : Addr) : TS2 :=
  (dRet (dCall sp_cleaned (dCons (dOp qIx (dFld a_View "views" (dVar 0)) (dUn qNeg (dC (.int 1)))) dNil)))
theorem pure_View_shown (C : Addr) : Pure 1 (sp_View_shown C) (T_View_shown C) := by
  rintro ds S Q E frg ⟨p, s, v, n, cs, rfl, w, q⟩
  unfold T_View_shown dFld
  walk_at "wp"
  exact ⟨_, w.o, _, fld_views, _, asQ_ref w.w, _, vw_last, shown cs n, rfl, trivial, q⟩
end Sc

namespace Sc
open PySem PySem.Spec PyProof.Rows L2 Sm
local macro_rules | `(tactic| walk_at "wp") => `(tactic| simp only [dRevT, dRevL, dEnumT, qRepA, qRepL, qCatL, qIn, qNotIn, dListR1, dListR2, dRet, dSeq, dIfS, dNext, dDrop, dSet, dAsg, dPar, dPar3, dAug, dVar, dC, dOp, dUn, dTest, dTru, dNot, dAnd, dOr, dAndV, dOrV, dNotV, dIf, dChain, dCall, dCons, dNil, dCB, dTup, dLst, dIsi, dStore, kSub, dYes, dFor, dIt, dItL, dRng1, dRng2, dSl, dNoP, dPart, dMt, dRaise,
  qI, qI0, qAdd, qSub, qMul, qFdiv, qFdivN, qMod, qPow, qLt, qLe, qGt, qGe, qEq, qNe, qIsN, qNotN, qIsB, qNotB, qNeg, qAbs, qMax2, qMin2, qLen, qIx, qTupOf, qLstOf, qSlT, qSlL, qCatT, qRepT, kName, kTup, kCons, kNil, start2, List.map_cons, List.map_nil, List.length_cons, List.length_nil, List.replicate, List.cons_append, List.nil_append, List.append_nil,
  List.getElem?_cons_zero, List.getElem?_cons_succ, List.set_cons_zero, List.set_cons_succ, Option.some.injEq, exists_eq_left', exists_eq_left, Dt.int.injEq, Dt.bl.injEq, Dt.ref.injEq, Dt.tup.injEq, Dt.lst.injEq, Nat.sub_zero, Nat.zero_add, Nat.reduceAdd, Nat.reduceSub, asQ_tup, asQ_lst, asL_lst, asT_tup, asQ_put, asL_put, exists_and_left, List.cons.injEq, and_true, isN_int, isN_non, truD_int, truD_non, at_0, at_1, at_2, ix20, ix21, Cells.put_same, Cells.put_put, Cell.lst.injEq, sEq_ii, sEq_bb, sEq_ss, sEq_nn, sEq_ni, sEq_in, true_and, decide_eq_true_eq, and_assoc])

/-! ### == of views, place -/
def sp_View_eq (C : Addr) : Sp2 := fun ds S Q _ => ∃ p s v n cs e, ds = [.ref p, e] ∧ VAt C S p s v n cs ∧ ((∃ p2 s2 v2 n2 cs2, e = .ref p2 ∧ VAt C S p2 s2 v2 n2 cs2 ∧ Q (.bl (decide (n = n2 ∧ clean cs n = clean cs2 n2))) S) ∨ ∃ es, e = .tup es ∧ Q (.bl false) S)
theorem View_eq_mono {C : Addr} : (sp_View_eq C).Mono := ⟨fun ds S Q Q' E E' h _ ⟨p, s, v, n, cs, e, e1, w, q⟩ => ⟨p, s, v, n, cs, e, e1, w, q.imp (fun ⟨p2, s2, v2, n2, cs2, e2, w2, q⟩ => ⟨p2, s2, v2, n2, cs2, e2, w2, h _ _ q⟩) fun ⟨es, e2, q⟩ => ⟨es, e2, h _ _ q⟩⟩⟩
theorem View_eq_lenD {C : Addr} : ∀ ds S Q E, sp_View_eq C ds S Q E → ds.length = 2 := fun ds S Q E ⟨p, s, v, n, cs, e, e1, _⟩ => by rw [e1]; rfl
def T_View___eq__ (a_View : Addr) : TS2 :=
  (dSeq (dIfS (dOr (dNot (dTest (dIsO a_View (dVar 1)))) (dTest (dOp qNe (dFld a_View "length" (dVar 0)) (dFld a_View "length" (dVar 1))))) (dRet (dC (.bl false))) dNext)
  (dRet (dOp qEqD (dMeth a_View "shown" (sp_View_shown a_View) (dVar 0) dNil) (dMeth a_View "shown" (sp_View_shown a_View) (dVar 1) dNil))))
theorem pure_View_eq (C : Addr) : Pure 2 (sp_View_eq C) (T_View___eq__ C) := by
  rintro ds S Q E frg ⟨p, s, v, n, cs, e, rfl, w, q⟩
  unfold T_View___eq__ dFld dIsO dMeth
  walk_at "wp"
  rcases q with ⟨p2, s2, v2, n2, cs2, rfl, w2, q⟩ | ⟨es, rfl, q⟩
  · refine ⟨true, .inl ⟨rfl, p2, rfl, _, w2.o⟩, iteN (by decide) ⟨_, w.o, _, fld_length, p2, rfl, _, w2.o, _, fld_length, _, sEq_ii, ?_⟩⟩
    by_cases h : n = n2
    · subst h
      refine iteN (by simp) ⟨_, w.o, no_shown, p, s, v, n, cs, rfl, w, p2, rfl, _, w2.o, no_shown, p2, s2, v2, n, cs2, rfl, w2, _, DEq.mk (n := 1) (m := 1) (dCl_ok _) (dCl_ok _) dCl_inj.symm, ?_⟩
      have e : decide (n = n ∧ clean cs n = clean cs2 n) = decide (clean cs n = clean cs2 n) := by simp
      rw [e] at q
      exact q
    · have e : decide (n = n2 ∧ clean cs n = clean cs2 n2) = false := by simp [h]
      rw [e] at q
      exact iteP (by simp [h]) q
  · exact ⟨false, .inr ⟨rfl, es, rfl⟩, iteP rfl (iteP trivial q)⟩
def sp_View_place (C aU : Addr) : Sp2 := fun ds S Q E => ∃ p s v n cs x, ds = [.ref p, x] ∧ VAt C S p s v n cs ∧ (∀ s, s ∈ cs → okS s) ∧ (0 ≤ n ∧ n ≤ 1000000000000000) ∧ Nr x ∧ ((isInt x 0 ((shown cs n).2.2 - 1) = false ∧ E aU S) ∨ ∃ k, x = .int k ∧ 0 ≤ k ∧ k < (shown cs n).2.2 ∧ Q (.int ((shown cs n).1 + (shown cs n).2.1 * k)) S)
theorem View_place_mono {C aU : Addr} : (sp_View_place C aU).Mono := ⟨fun ds S Q Q' E E' h h' ⟨p, s, v, n, cs, x, e1, w, o, b, r, q⟩ => ⟨p, s, v, n, cs, x, e1, w, o, b, r, q.imp (fun q => ⟨q.1, h' _ _ q.2⟩) fun ⟨k, e2, k0, k1, q⟩ => ⟨k, e2, k0, k1, h _ _ q⟩⟩⟩
theorem View_place_lenD {C aU : Addr} : ∀ ds S Q E, sp_View_place C aU ds S Q E → ds.length = 2 := fun ds S Q E ⟨p, s, v, n, cs, x, e1, _⟩ => by rw [e1]; rfl
def T_View_place (a_InvalidNumber : Addr) (a_View : Addr) : TS2 :=
  (dSeq (dAsg (dOp qIx (dFld a_View "views" (dVar 0)) (dUn qNeg (dC (.int 1)))) (kTup 3 (kCons (kName 2) (kCons (kName 3) (kCons (kName 4) kNil)))))
  (dSeq (dIfS (dNot (dTest (dCall sp_is_integer (dCons (dVar 1) (dCons (dC (.int 0)) (dCons (dOp qSub (dVar 4) (dC (.int 1))) dNil)))))) (dRaise a_InvalidNumber) dNext)
  (dRet (dOp qAdd (dVar 2) (dOp qMul (dVar 3) (dVar 1))))))
theorem pure_View_place (aU C : Addr) : Pure 5 (sp_View_place C aU) (T_View_place aU C) := by
  rintro ds S Q E frg ⟨p, s, v, n, cs, x, rfl, w, ho, ⟨n0, n1⟩, nr, q⟩
  unfold T_View_place dFld
  walk_at "wp"
  have cn := shownF_count cs (0, 1, n) ho n0
  have ce : (shown cs n).2.2 = (shownF cs (0, 1, n)).2.2 := rfl
  have c1 : (shown cs n).2.2 ≤ n := cn.2
  refine ⟨_, w.o, _, fld_views, _, asQ_ref w.w, _, vw_last, _, rfl, rfl, _, _, rfl, _, _, rfl, _, _, rfl, rfl, _, rfl, (x, 0, (shown cs n).2.2 - 1), rfl, nr, _, rfl, ?_⟩
  rcases q with ⟨h, q⟩ | ⟨k, rfl, k0, k1, q⟩
  · rw [h]
    exact iteP rfl q
  · have h : isInt (.int k) 0 ((shown cs n).2.2 - 1) = true := by
      show decide (0 ≤ k ∧ k ≤ (shown cs n).2.2 - 1) = true
      exact decide_eq_true ⟨k0, by omega⟩
    rw [h]
    exact iteN (by decide) ⟨_, rfl, k, rfl, .inr ⟨by omega, by omega⟩, _, rfl, q⟩
/-! ### what an action does -/
/-- flat values -/
inductive Fl : Dt → Prop
  | non : Fl .non
  | bl (b : Bool) : Fl (.bl b)
  | int (i : Int) : Fl (.int i)
  | str (x : Str) : Fl (.str x)
theorem Fl.nr {d : Dt} (h : Fl d) : Nr d := by
  cases h
  · exact .non
  · exact .bl _
  · exact .int _
  · exact .str _
structure GoodArg (a b c : Dt) : Prop where
  a : Fl a
  b : Fl b
  c : c = .non ∨ ∃ i, c = .int i
inductive Res (n : Int) : List Sl → Dt → Dt → List Sl → Prop
  | good {cs : List Sl} {one : Sl} (h : okS one) : Res n cs (.tup [.str "slice", dO one.1, dO one.2.1, .int one.2.2]) .non (cs ++ [one])
  | bad {cs : List Sl} {a b c : Dt} (h : isSlc (.tup [a, b, c]) = false) (f : GoodArg a b c) : Res n cs (.tup [.str "slice", a, b, c]) (.str "slice") cs
  | und0 : Res n [] (.tup [.str "undo"]) (.str "undo") []
  | und {cs : List Sl} (h : cs ≠ []) : Res n cs (.tup [.str "undo"]) .non cs.dropLast
  | plc {cs : List Sl} {k : Int} (h0 : 0 ≤ k) (h1 : k < (shown cs n).2.2) : Res n cs (.tup [.str "place", .int k]) (.int ((shown cs n).1 + (shown cs n).2.1 * k)) cs
  | no {cs : List Sl} {x : Dt} (f : Fl x) (h : isInt x 0 ((shown cs n).2.2 - 1) = false) : Res n cs (.tup [.str "place", x]) (.str "number") cs
/-! ### the law's defs -/
def sp__law_good : Sp2 := psp (α := Dt × Dt × Dt) (fun a => [.tup [a.1, a.2.1, a.2.2]]) (fun a => GoodArg a.1 a.2.1 a.2.2) (fun a => .bl (isSlc (.tup [a.1, a.2.1, a.2.2])))
def T_good_in : TS2 :=
  (dIfS (dTest (dOp qNotN (dVar 1) (dC .non))) (dIfS (dOr (dNot (dTest (dIsi "int" (dVar 1)))) (dOr (dTest (dIsi "bool" (dVar 1))) (dNot (dTest (dChain qLe qLe (dUn qNeg (dC (.int 30))) (dVar 1) (dC (.int 30))))))) (dRet (dC (.bl false))) dNext) dNext)
theorem ntF {b : Bool} (h : b = false) : ¬ b = true := by rw [h]; decide
theorem good_in {d t : Dt} (f : Fl d) {x : XK2} {D : Ends2} {S : Cells} (h1 : isBnd d = true → D.nx [some t, some d] S) (h2 : isBnd d = false → D.rt (.bl false) S) : T_good_in x D [some t, some d] S := by
  unfold T_good_in
  walk_at "wp"
  have nr := f.nr
  simp only [isi_int nr, isi_bool nr, Option.some.injEq, exists_eq_left']
  cases f with
  | non => exact iteN (by decide) (h1 rfl)
  | bl b => exact iteP rfl (iteN (ntF rfl) (iteP rfl (iteP trivial (h2 rfl))))
  | str s => exact iteP rfl (iteP rfl (iteP trivial (h2 rfl)))
  | int i =>
    refine iteP rfl (iteN (ntF rfl) (iteN (ntF rfl) ⟨i, rfl, ite2 (fun a => ⟨i, rfl, ite2 (fun b => ?_) (fun b => ?_)⟩) fun a => iteP rfl (h2 ?_)⟩))
    · refine h2 ?_
      show (false || decide (-30 ≤ i ∧ i ≤ 30)) = false
      simp at b ⊢
      omega
    · refine h1 ?_
      show (false || decide (-30 ≤ i ∧ i ≤ 30)) = true
      simp at b ⊢
      omega
    · show (false || decide (-30 ≤ i ∧ i ≤ 30)) = false
      simp
      omega
def T__law_good : TS2 :=
  (dSeq (dFor (dIt (dSl qSlT (dVar 0) dNoP (dPart (dC (.int 2))))) (kName 1) T_good_in)
  (dRet (dAndV (dIsi "int" (dOp qIx (dVar 0) (dC (.int 2)))) (dOp qIn (dOp qIx (dVar 0) (dC (.int 2))) (dLst (dCons (dC (.int 1)) (dCons (dC (.int 2)) (dCons (dC (.int 3)) (dCons (dUn qNeg (dC (.int 1))) (dCons (dUn qNeg (dC (.int 2))) (dCons (dUn qNeg (dC (.int 3))) dNil)))))))))))
theorem pure__law_good : Pure 2 sp__law_good T__law_good := by
  rintro ds S Q E frg ⟨⟨a, b, c⟩, rfl, ⟨fa, fb, fc⟩, q⟩
  unfold T__law_good
  walk_at "wp"
  show dLoop (kName 1) T_good_in (X0 E) _ [a, b] _ _
  have q : Q (.bl (isBnd a && isBnd b && isStp c)) S := q
  refine good_in fa (fun ha => good_in fb (fun hb => ?_) fun hb => ?_) fun ha => ?_
  · rw [ha, hb] at q
    have q : Q (.bl (isStp c)) S := q
    show ∃ d, [some (Dt.tup [a, b, c]), some b][0]? = some (some d) ∧ _
    walk_at "wp"
    rcases fc with rfl | ⟨i, rfl⟩
    · exact ⟨_, rfl, q⟩
    · refine ⟨_, rfl, iteP rfl ⟨by decide, .inl ⟨_, rfl, rfl, rfl, ?_⟩⟩⟩
      have e : isIn (.int i) [Dt.int 1, Dt.int 2, Dt.int 3, Dt.int (-1), Dt.int (-2), Dt.int (-3)] = isStp (.int i) := by
        rw [show [Dt.int 1, Dt.int 2, Dt.int 3, Dt.int (-1), Dt.int (-2), Dt.int (-3)] = ([1, 2, 3, -1, -2, -3] : List Int).map Dt.int from rfl, isIn_int]
        show decide _ = (decide (-3 ≤ i ∧ i ≤ 3) && decide (i ≠ 0))
        rw [Bool.eq_iff_iff]
        simp
        omega
      rw [e]
      exact q
  · rw [ha, hb] at q
    exact q
  · rw [ha] at q
    exact q
/-- an action -/
inductive Act : Dt → Prop
  | slc (one : Sl) (h : okS one) : Act (.tup [.str "slice", dO one.1, dO one.2.1, .int one.2.2])
  | bad {a b c : Dt} (h : isSlc (.tup [a, b, c]) = false) (f : GoodArg a b c) : Act (.tup [.str "slice", a, b, c])
  | und : Act (.tup [.str "undo"])
  | plc {x : Dt} (f : Fl x) (h : ∀ s, x ≠ .str s) : Act (.tup [.str "place", x])
def sp__law_action : Sp2 := bsp (α := Int) (β := Dt) (fun m => [.int m]) (fun m => 0 ≤ m ∧ m ≤ 1000000000000000) (fun _ d => Act d) id
def T__law_action : TS2 :=
  (dSeq (dSet 2 (dCall sp__law_take (dCons (dVar 0) (dCons (dC (.int 12)) dNil))))
  (dSeq (dIfS (dTest (dOp qLt (dVar 2) (dC (.int 5)))) (dSeq (dAsg (dCall sp__law_slice (dCons (dVar 0) (dCons (dC (.int 5)) dNil))) (kTup 3 (kCons (kName 3) (kCons (kName 4) (kCons (kName 5) kNil)))))
  (dRet (dTup (dCons (dC (.str "slice")) (dCons (dVar 3) (dCons (dVar 4) (dCons (dVar 5) dNil))))))) dNext)
  (dSeq (dIfS (dTest (dOp qLt (dVar 2) (dC (.int 7)))) (dSeq (dSet 6 (dLst (dCons (dTup (dCons (dC (.str "x")) (dCons (dC .non) (dCons (dC (.int 1)) dNil)))) (dCons (dTup (dCons (dC (.int 0)) (dCons (dC (.int 31)) (dCons (dC (.int 1)) dNil)))) (dCons (dTup (dCons (dC .non) (dCons (dC .non) (dCons (dC (.int 0)) dNil)))) (dCons (dTup (dCons (dC (.int 0)) (dCons (dC (.bl true)) (dCons (dC (.int 1)) dNil)))) (dCons (dTup (dCons (dC .non) (dCons (dC .non) (dCons (dC (.int 4)) dNil)))) (dCons (dTup (dCons (dC .non) (dCons (dC .non) (dCons (dC .non) dNil)))) dNil))))))))
  (dSeq (dAsg (dCall sp__law_of (dCons (dVar 0) (dCons (dVar 6) dNil))) (kTup 3 (kCons (kName 3) (kCons (kName 4) (kCons (kName 5) kNil)))))
  (dRet (dTup (dCons (dC (.str "slice")) (dCons (dVar 3) (dCons (dVar 4) (dCons (dVar 5) dNil)))))))) dNext)
  (dSeq (dIfS (dTest (dOp qLt (dVar 2) (dC (.int 9)))) (dRet (dTup (dCons (dC (.str "undo")) dNil))) dNext)
  (dRet (dTup (dCons (dC (.str "place")) (dCons (dCall sp__law_of (dCons (dVar 0) (dCons (dLst (dCons (dC (.int 0)) (dCons (dCall sp__law_take (dCons (dVar 0) (dCons (dOp qAdd (dVar 1) (dC (.int 1))) dNil))) (dCons (dOp qSub (dVar 1) (dC (.int 1))) (dCons (dVar 1) (dCons (dUn qNeg (dC (.int 1))) (dCons (dC .non) (dCons (dC (.bl true)) dNil)))))))) dNil))) dNil))))))))
theorem pure__law_action : Pure 7 sp__law_action T__law_action := by
  rintro ds S Q E frg ⟨b, m, rfl, hb, ⟨m0, m1⟩, q⟩
  unfold T__law_action
  walk_at "wp"
  refine ⟨b, 12, rfl, hb, ⟨by decide, by decide⟩, fun r c1 s1 hr => ⟨r, rfl, ite2 (fun _ => ?_) fun _ => ⟨r, rfl, ite2 (fun _ => ?_) fun _ => ⟨r, rfl, ite2 (fun _ => ?_) fun _ => ?_⟩⟩⟩⟩
  · refine ⟨b, 5, rfl, Bag.put, ⟨by decide, by decide⟩, fun one c2 s2 h1 => ⟨_, rfl, rfl, _, _, rfl, _, _, rfl, _, _, rfl, rfl, by decide, ?_⟩⟩
    rw [Cells.put_put]
    exact q _ _ _ (.slc one (slW_ok (by decide) h1))
  · refine ⟨by decide, by decide, by decide, by decide, by decide, by decide, by decide, .inl ⟨b, _, rfl, Bag.put, ⟨by show 0 < 6; decide, by show 6 ≤ 100000; decide⟩, fun z c2 s2 hz => ?_⟩⟩
    rw [Cells.put_put]
    have hz : z ∈ [Dt.tup [.str "x", .non, .int 1], .tup [.int 0, .int 31, .int 1], .tup [.non, .non, .int 0], .tup [.int 0, .bl true, .int 1], .tup [.non, .non, .int 4], .tup [.non, .non, .non]] := hz
    have key : ∃ x y w, z = .tup [x, y, w] ∧ Act (.tup [.str "slice", x, y, w]) := by
      simp only [List.mem_cons, List.not_mem_nil, or_false] at hz
      rcases hz with rfl | rfl | rfl | rfl | rfl | rfl
      · exact ⟨_, _, _, rfl, .bad (by decide) ⟨.str _, .non, .inr ⟨_, rfl⟩⟩⟩
      · exact ⟨_, _, _, rfl, .bad (by decide) ⟨.int _, .int _, .inr ⟨_, rfl⟩⟩⟩
      · exact ⟨_, _, _, rfl, .bad (by decide) ⟨.non, .non, .inr ⟨_, rfl⟩⟩⟩
      · exact ⟨_, _, _, rfl, .bad (by decide) ⟨.int _, .bl _, .inr ⟨_, rfl⟩⟩⟩
      · exact ⟨_, _, _, rfl, .bad (by decide) ⟨.non, .non, .inr ⟨_, rfl⟩⟩⟩
      · exact ⟨_, _, _, rfl, .bad (by decide) ⟨.non, .non, .inl rfl⟩⟩
    obtain ⟨x, y, w, rfl, a⟩ := key
    exact ⟨_, rfl, rfl, _, _, rfl, _, _, rfl, _, _, rfl, rfl, by decide, q _ _ _ a⟩
  · exact ⟨by decide, q _ _ _ .und⟩
  · refine ⟨b, m + 1, rfl, Bag.put, ⟨by omega, by omega⟩, fun t c2 s2 ht => ⟨by decide, .inl ⟨b, _, rfl, Bag.put, ⟨by show 0 < 7; decide, by show 7 ≤ 100000; decide⟩, fun z c3 s3 hz => ⟨by decide, ?_⟩⟩⟩⟩
    rw [Cells.put_put, Cells.put_put]
    have hz : z ∈ [Dt.int 0, .int t, .int (m - 1), .int m, .int (-1), .non, .bl true] := hz
    have key : Fl z ∧ ∀ s, z ≠ .str s := by
      simp only [List.mem_cons, List.not_mem_nil, or_false] at hz
      rcases hz with rfl | rfl | rfl | rfl | rfl | rfl | rfl
      · exact ⟨.int _, fun s e => nomatch e⟩
      · exact ⟨.int _, fun s e => nomatch e⟩
      · exact ⟨.int _, fun s e => nomatch e⟩
      · exact ⟨.int _, fun s e => nomatch e⟩
      · exact ⟨.int _, fun s e => nomatch e⟩
      · exact ⟨.non, fun s e => nomatch e⟩
      · exact ⟨.bl _, fun s e => nomatch e⟩
    exact q _ _ _ (.plc key.1 key.2)
/-- what an action does to n and the slices cs -/
theorem Act.res {ac : Dt} (h : Act ac) {n : Int} {cs : List Sl} (ho : ∀ s, s ∈ cs → okS s) : ∃ r cs', Res n cs ac r cs' ∧ (∀ s, s ∈ cs' → okS s) ∧ cs'.length ≤ cs.length + 1 := by
  cases h with
  | slc one h => exact ⟨_, _, .good h, fun s hs => by
      rcases List.mem_append.mp hs with hs | hs
      · exact ho s hs
      · rw [List.mem_singleton.mp hs]
        exact h, by simp⟩
  | bad h f => exact ⟨_, _, .bad h f, ho, Nat.le_succ _⟩
  | und =>
    cases cs with
    | nil => exact ⟨_, _, .und0, ho, Nat.le_succ _⟩
    | cons a l => exact ⟨_, _, .und (fun e => nomatch e), fun s hs => ho s (List.dropLast_subset _ hs), by rw [List.length_dropLast]; omega⟩
  | @plc x f h =>
    cases hi : isInt x 0 ((shown cs n).2.2 - 1) with
    | false => exact ⟨_, _, .no f hi, ho, Nat.le_succ _⟩
    | true =>
      cases x with
      | int k =>
        have z : decide (0 ≤ k ∧ k ≤ (shown cs n).2.2 - 1) = true := hi
        have z := of_decide_eq_true z
        exact ⟨_, _, .plc z.1 (by omega), ho, Nat.le_succ _⟩
      | _ => cases hi
def sp_law_due : Sp2 := fun ds S Q _ => ∃ (n : Int) (d : Addr) (cs : List Sl) (ac r : Dt) (cs' : List Sl), ds = [.int n, .ref d, ac] ∧ S d = some (.lst (cs.map dS)) ∧ (∀ s, s ∈ cs → okS s) ∧ cs.length ≤ 60 ∧ (0 ≤ n ∧ n ≤ 1000000000000000) ∧ Res n cs ac r cs' ∧ ∀ S', S' d = some (.lst (cs'.map dS)) → (∀ a, a ≠ d → S' a = S a) → Q r S'
theorem law_due_mono : sp_law_due.Mono := ⟨fun ds S Q Q' E E' h _ ⟨n, d, cs, ac, r, cs', e, hd, ho, hl, hn, hr, q⟩ => ⟨n, d, cs, ac, r, cs', e, hd, ho, hl, hn, hr, fun S' h1 h2 => h _ _ (q S' h1 h2)⟩⟩
theorem law_due_lenD : ∀ ds S Q E, sp_law_due ds S Q E → ds.length = 3 := fun ds S Q E ⟨n, d, cs, ac, r, cs', e, _⟩ => by rw [e]; rfl
def T__law_due : TS2 :=
  (dSeq (dAsg (dCall sp__law_shown (dCons (dCB qTupOf (dCons (dVar 1) dNil)) (dCons (dVar 0) dNil))) (kTup 3 (kCons (kName 3) (kCons (kName 4) (kCons (kName 5) kNil)))))
  (dSeq (dIfS (dTest (dOp qEq (dOp qIx (dVar 2) (dC (.int 0))) (dC (.str "undo")))) (dSeq (dIfS (dTest (dOp qEqD (dVar 1) (dLst dNil))) (dRet (dC (.str "undo"))) dNext)
  (dSeq (dDrop (dMt qPop (dVar 1) dNil))
  (dRet (dC .non)))) dNext)
  (dSeq (dIfS (dTest (dOp qEq (dOp qIx (dVar 2) (dC (.int 0))) (dC (.str "slice")))) (dSeq (dIfS (dNot (dTest (dCall sp__law_good (dCons (dSl qSlT (dVar 2) (dPart (dC (.int 1))) dNoP) dNil)))) (dRet (dC (.str "slice"))) dNext)
  (dSeq (dDrop (dMt qAppend (dVar 1) (dCons (dSl qSlT (dVar 2) (dPart (dC (.int 1))) dNoP) dNil)))
  (dRet (dC .non)))) dNext)
  (dSeq (dSet 6 (dOp qIx (dVar 2) (dC (.int 1))))
  (dSeq (dIfS (dOr (dNot (dTest (dIsi "int" (dVar 6)))) (dOr (dTest (dIsi "bool" (dVar 6))) (dNot (dTest (dChain qLe qLt (dC (.int 0)) (dVar 6) (dVar 5)))))) (dRet (dC (.str "number"))) dNext)
  (dRet (dOp qAdd (dVar 3) (dOp qMul (dOrT (dVar 4) (dC (.int 0))) (dVar 6)))))))))
theorem pure_law_due : Pure 7 sp_law_due T__law_due := by
  rintro ds S Q E frg ⟨n, d, cs, ac, r, cs', rfl, hd, ho, hl, ⟨n0, n1⟩, hr, q⟩
  unfold T__law_due
  walk_at "wp"
  refine ⟨_, asQ_ref hd, (cs, n), rfl, ⟨ho, n0, by show n ≤ 10 ^ 18; omega⟩, ?_⟩
  have e1 : ¬ (decide ((("slice" : Str)) = ("undo" : Str))) = true := by decide
  have e2 : ¬ (decide ((("place" : Str)) = ("undo" : Str))) = true := by decide
  have e3 : ¬ (decide ((("place" : Str)) = ("slice" : Str))) = true := by decide
  have l1 : (cs.map dS).length < 100000 := by rw [List.length_map]; omega
  cases hr with
  | @good _ one h =>
    have g : isSlc (.tup [dO one.1, dO one.2.1, .int one.2.2]) = true := dS_isSlc h
    have fl : ∀ o, Fl (dO o) := fun o => by cases o; exact .non; exact .int _
    refine ⟨_, rfl, rfl, _, _, rfl, _, _, rfl, _, _, rfl, rfl, _, rfl, _, at_0, _, sEq_ss, iteN e1 ⟨_, rfl, _, at_0, _, sEq_ss, iteP (by decide) ⟨_, rfl, (dO one.1, dO one.2.1, .int one.2.2), rfl, ⟨fl _, fl _, .inr ⟨_, rfl⟩⟩, _, rfl, iteN (by show ¬ (!isSlc (.tup [dO one.1, dO one.2.1, .int one.2.2])) = true; rw [g]; decide) ?_⟩⟩⟩
    refine ⟨⟨_, asL_ref hd⟩, _, rfl, d, cs.map dS, _, rfl, rfl, hd, l1, q _ ?_ fun a ha => Cells.put_ne ha⟩
    rw [Cells.put_same, List.map_append, List.map_singleton]
    rfl
  | @bad _ a b c h f =>
    refine ⟨_, rfl, rfl, _, _, rfl, _, _, rfl, _, _, rfl, rfl, _, rfl, _, at_0, _, sEq_ss, iteN e1 ⟨_, rfl, _, at_0, _, sEq_ss, iteP (by decide) ⟨_, rfl, (a, b, c), rfl, f, _, rfl, iteP (by show (!isSlc (.tup [a, b, c])) = true; rw [h]; rfl) (q S hd fun _ _ => rfl)⟩⟩⟩
  | und0 =>
    refine ⟨_, rfl, rfl, _, _, rfl, _, _, rfl, _, _, rfl, rfl, _, rfl, _, at_0, _, sEq_ss, iteP (by decide) ⟨by decide, .inl ?_⟩⟩
    have rv : rsv S (.ref d) = .lst [] := by simp only [rsv, hd]; rfl
    exact ⟨true, ⟨1, 1, by decide, by decide, by rw [rv]; exact .lst fun _ h => (nomatch h), .lst fun _ h => (nomatch h), by rw [rv]; exact ⟨fun _ => rfl, fun _ => rfl⟩⟩, true, rfl, iteP rfl (q S hd fun _ _ => rfl)⟩
  | und h =>
    refine ⟨_, rfl, rfl, _, _, rfl, _, _, rfl, _, _, rfl, rfl, _, rfl, _, at_0, _, sEq_ss, iteP (by decide) ⟨by decide, .inl ?_⟩⟩
    have rv : rsv S (.ref d) = .lst (cs.map dS) := by simp only [rsv, hd]
    have ne : cs.map dS ≠ [] := fun e => h (List.map_eq_nil_iff.mp e)
    obtain ⟨z, ez⟩ : ∃ z, (cs.map dS)[(cs.map dS).length - 1]? = some z := ⟨(cs.map dS)[(cs.map dS).length - 1]'(by have := List.length_pos_iff.mpr ne; omega), List.getElem?_eq_getElem _⟩
    refine ⟨false, ⟨2, 1, by decide, by decide, ?_, .lst fun _ h => (nomatch h), ?_⟩, false, rfl, iteN (by decide) ⟨⟨_, asL_ref hd⟩, d, _, z, rfl, rfl, hd, ez, q _ ?_ fun a ha => Cells.put_ne ha⟩⟩
    · rw [rv]
      exact .lst fun x hx => by
        obtain ⟨s, _, rfl⟩ := List.mem_map.mp hx
        exact dS_ok s
    · rw [rv]
      exact ⟨(fun e => nomatch e), fun e => absurd (Dt.lst.inj e) ne⟩
    · rw [Cells.put_same, List.dropLast_eq_take, List.dropLast_eq_take, List.map_take, List.length_map]
  | @plc _ k h0 h1 =>
    refine ⟨_, rfl, rfl, _, _, rfl, _, _, rfl, _, _, rfl, rfl, _, rfl, _, at_0, _, sEq_ss, iteN e2 ⟨_, rfl, _, at_0, _, sEq_ss, iteN e3 ⟨_, rfl, _, at_1, ?_⟩⟩⟩
    have m0 : (shown cs n).2.2 > 0 := by omega
    have c1 : (clean cs n).1 = some (shown cs n).1 := if_pos m0
    refine ⟨_, isi_int (.int k), iteN (ntF rfl) ⟨_, isi_bool (.int k), iteN (ntF rfl) ⟨k, rfl, iteP h0 ⟨k, rfl, _, rfl, iteN (by show ¬ (!decide (k < (shown cs n).2.2)) = true; rw [decide_eq_true h1]; decide) ?_⟩⟩⟩⟩
    have fin : ∀ i, i * k = (shown cs n).2.1 * k → CMul i k ∧ ∃ i_1, dO (clean cs n).1 = Dt.int i_1 ∧ Q (Dt.int (i_1 + i * k)) S := fun i e => by
      refine ⟨.inr ⟨by omega, ?_⟩, (shown cs n).1, by rw [c1]; rfl, by rw [e]; exact q S hd fun _ _ => rfl⟩
      have cn := (shownF_count cs (0, 1, n) ho n0).2
      have cn : (shown cs n).2.2 ≤ n := cn
      omega
    unfold dOrT
    walk_at "wp"
    by_cases m1 : (shown cs n).2.2 > 1
    · have c2 : (clean cs n).2.1 = some (shown cs n).2.1 := if_pos m1
      rw [show (clean (cs, n).1 (cs, n).2).2.1 = some (shown cs n).2.1 from c2]
      refine ⟨_, truD_int, ite2 (fun _ => ⟨_, rfl, fin _ rfl⟩) fun z => ?_⟩
      have z0 : (shown cs n).2.1 = 0 := by simpa using z
      exact fin 0 (by rw [z0])
    · have c2 : (clean cs n).2.1 = none := if_neg m1
      rw [show (clean (cs, n).1 (cs, n).2).2.1 = none from c2]
      have k0 : k = 0 := by omega
      refine ⟨_, truD_non, iteN (by decide) (fin 0 ?_)⟩
      rw [k0, Int.mul_zero, Int.mul_zero]
  | @no _ x f h =>
    refine ⟨_, rfl, rfl, _, _, rfl, _, _, rfl, _, _, rfl, rfl, _, rfl, _, at_0, _, sEq_ss, iteN e2 ⟨_, rfl, _, at_0, _, sEq_ss, iteN e3 ⟨_, rfl, _, at_1, ?_⟩⟩⟩
    have nr := f.nr
    refine ⟨_, isi_int nr, ?_⟩
    have fin : Q (.str "number") S := q S hd fun _ _ => rfl
    cases f with
    | non => exact iteP rfl (iteP trivial fin)
    | str s => exact iteP rfl (iteP trivial fin)
    | bl b => exact iteN (ntF rfl) ⟨_, isi_bool nr, iteP rfl (iteP trivial fin)⟩
    | int k =>
      have h : decide (0 ≤ k ∧ k ≤ (shown cs n).2.2 - 1) = false := h
      have h := of_decide_eq_false h
      refine iteN (ntF rfl) ⟨_, isi_bool nr, iteN (ntF rfl) ⟨k, rfl, ite2 (fun k0 => ⟨k, rfl, _, rfl, iteP ?_ fin⟩) fun _ => iteP rfl fin⟩⟩
      show (!decide (k < (shown cs n).2.2)) = true
      have : ¬ k < (shown cs n).2.2 := fun z => h ⟨k0, by omega⟩
      rw [decide_eq_false this]
      rfl
def sp_law_did (C : Addr) : Sp2 := fun ds S Q _ => ∃ p s v n cs ac r cs', ds = [.ref p, ac] ∧ VAt C S p s v n cs ∧ (∀ s, s ∈ cs → okS s) ∧ cs.length < 60 ∧ (0 ≤ n ∧ n ≤ 1000000000000000) ∧ Res n cs ac r cs' ∧ ∀ S', VAt C S' p s v n cs' → (∀ a, a ≠ s → a ≠ v → S' a = S a) → Q r S'
theorem law_did_mono {C : Addr} : (sp_law_did C).Mono := ⟨fun ds S Q Q' E E' h _ ⟨p, s, v, n, cs, ac, r, cs', e, w, ho, hl, hn, hr, q⟩ => ⟨p, s, v, n, cs, ac, r, cs', e, w, ho, hl, hn, hr, fun S' h1 h2 => h _ _ (q S' h1 h2)⟩⟩
theorem law_did_lenD {C : Addr} : ∀ ds S Q E, sp_law_did C ds S Q E → ds.length = 2 := fun ds S Q E ⟨p, s, v, n, cs, ac, r, cs', e, _⟩ => by rw [e]; rfl
def T_did_suite (a_InvalidNumber a_InvalidSlice a_NothingToUndo C a : Addr) : TS2 :=
  (dSeq (dSet 3 (dLst (dCons (dIsE (lk [(a_InvalidSlice, true), (a_NothingToUndo, false), (a_InvalidNumber, false)]) C a 2) (dCons (dIsE (lk [(a_InvalidSlice, false), (a_NothingToUndo, true), (a_InvalidNumber, false)]) C a 2) (dCons (dIsE (lk [(a_InvalidSlice, false), (a_NothingToUndo, false), (a_InvalidNumber, true)]) C a 2) dNil)))))
  (dRet (dJoin (dC (.str "")) (dLc (dZipA (dLst (dCons (dC (.str "slice")) (dCons (dC (.str "undo")) (dCons (dC (.str "number")) dNil)))) (dVar 3)) (kTup 2 (kCons (kName 5) (kCons (kName 4) kNil))) (dTru (dVar 4)) (dVar 5)))))
/-- the words whose answer is yes -/
def selZ : List Str → List Bool → List Str
  | w :: ws, b :: bs => if b = true then w :: selZ ws bs else selZ ws bs
  | _, _ => []
def fstD : Dt → Dt
  | .tup [w, _] => w
  | _ => .non
def sndB : Dt → Bool
  | .tup [_, .bl b] => b
  | _ => false
theorem sel_map : ∀ (ws : List Str) (bs : List Bool), ((zipD (ws.map Dt.str) (bs.map Dt.bl)).filter sndB).map fstD = (selZ ws bs).map Dt.str
  | [], bs => by simp [zipD, selZ]
  | w :: ws, [] => by simp [zipD, selZ]
  | w :: ws, b :: bs => by
    have ih := sel_map ws bs
    have e : zipD ((w :: ws).map Dt.str) ((b :: bs).map Dt.bl) = .tup [.str w, .bl b] :: zipD (ws.map Dt.str) (bs.map Dt.bl) := rfl
    rw [e]
    cases b with
    | true =>
      rw [List.filter_cons_of_pos (by rfl), List.map_cons, ih]
      rfl
    | false =>
      rw [List.filter_cons_of_neg (by show ¬ false = true; decide), ih]
      rfl
theorem zip_mem {ws : List Str} {bs : List Bool} {d : Dt} (h : d ∈ zipD (ws.map Dt.str) (bs.map Dt.bl)) : ∃ w b, d = .tup [.str w, .bl b] := by
  obtain ⟨i, hi, e⟩ := List.getElem_of_mem h
  obtain ⟨a, c, e1, e2, e3⟩ := zipD_get (List.getElem?_eq_some_iff.mpr ⟨hi, e⟩)
  rw [List.getElem?_map] at e1 e2
  obtain ⟨w, _, rfl⟩ := Option.map_eq_some_iff.mp e1
  obtain ⟨b, _, rfl⟩ := Option.map_eq_some_iff.mp e2
  exact ⟨w, b, e3⟩
theorem did_suite {aU aI aN C : Addr} {x : XK2} {D : Ends2} {S : Cells} {p a : Addr} {ac : Dt} {b1 b2 b3 : Bool} (h1 : lk [(aI, true), (aN, false), (aU, false)] C = some b1) (h2 : lk [(aI, false), (aN, true), (aU, false)] C = some b2) (h3 : lk [(aI, false), (aN, false), (aU, true)] C = some b3)
    (q : D.rt (.str (Txt.join "" (selZ ["slice", "undo", "number"] [b1, b2, b3]))) S) : T_did_suite aU aI aN C a x D [some (.ref p), some ac, some (.ref a), none, none, none] S := by
  unfold T_did_suite dIsE dJoin dZipA
  walk_at "wp"
  refine ⟨b1, h1, b2, h2, b3, h3, by decide, .inl ?_⟩
  walk_at "wp"
  refine ⟨_, rfl, by decide, .inl ⟨_, rfl, _, rfl, _, rfl, Nat.le_refl _, comp_fil sndB fstD (by show 3 < 100000; decide) (fun d hd S' R1 R2 k1 k2 => ?_) ?_⟩⟩
  · obtain ⟨w, b, rfl⟩ := zip_mem (ws := ["slice", "undo", "number"]) (bs := [b1, b2, b3]) hd
    walk_at "wp"
    exact ⟨b, rfl, ite2 (fun e => k1 e) fun e => k2 (by show b = false; exact Bool.eq_false_iff.mpr e)⟩
  · refine .inl ⟨selZ ["slice", "undo", "number"] [b1, b2, b3], ?_, ?_, q⟩
    · exact congrArg Dt.lst (sel_map ["slice", "undo", "number"] [b1, b2, b3])
    · cases b1 <;> cases b2 <;> cases b3 <;> decide
def T__law_did (a_InvalidNumber : Addr) (a_InvalidSlice : Addr) (a_NothingToUndo : Addr) (a_TooMany : Addr) (a_View : Addr) : TS2 :=
  (dTry (lk [(a_InvalidSlice, true), (a_NothingToUndo, true), (a_InvalidNumber, true)]) (okL [(a_InvalidSlice, true), (a_NothingToUndo, true), (a_InvalidNumber, true)]) 2 (dSeq (dIfS (dTest (dOp qEq (dOp qIx (dVar 1) (dC (.int 0))) (dC (.str "slice")))) (dRet (dMeth a_View "slice" (sp_View_slice a_View a_InvalidSlice a_TooMany) (dVar 0) (dCons (dOp qIx (dVar 1) (dC (.int 1))) (dCons (dOp qIx (dVar 1) (dC (.int 2))) (dCons (dOp qIx (dVar 1) (dC (.int 3))) dNil))))) dNext)
  (dRet (dIf (dTest (dOp qEq (dOp qIx (dVar 1) (dC (.int 0))) (dC (.str "undo")))) (dMeth a_View "undo" (sp_View_undo a_View a_NothingToUndo) (dVar 0) dNil) (dMeth a_View "place" (sp_View_place a_View a_InvalidNumber) (dVar 0) (dCons (dOp qIx (dVar 1) (dC (.int 1))) dNil))))) (fun C a => (T_did_suite a_InvalidNumber a_InvalidSlice a_NothingToUndo C a)))
theorem lk1 {a b c : Addr} {x y z : Bool} : lk [(a, x), (b, y), (c, z)] a = some x := by simp [lk]
theorem lk2 {a b c : Addr} {x y z : Bool} (h : a ≠ b) : lk [(a, x), (b, y), (c, z)] b = some y := by simp [lk, h]
theorem lk3 {a b c : Addr} {x y z : Bool} (h : a ≠ c) (h2 : b ≠ c) : lk [(a, x), (b, y), (c, z)] c = some z := by simp [lk, h, h2]
theorem pure_law_did (aU aI aN aT C : Addr) (d1 : aI ≠ aN) (d2 : aI ≠ aU) (d3 : aN ≠ aU) : Pure 6 (sp_law_did C) (T__law_did aU aI aN aT C) := by
  rintro ds S Q E frg ⟨p, s, v, n, cs, ac, r, cs', rfl, w, ho, hl, hn, hr, q⟩
  unfold T__law_did dTry dMeth
  walk_at "wp"
  -- what the clause wishes, when C' is raised and the store is as it was
  have wish : ∀ (A : Addr) (b1 b2 b3 : Bool), lk [(aI, true), (aN, true), (aU, true)] A = some true → lk [(aI, true), (aN, false), (aU, false)] A = some b1 → lk [(aI, false), (aN, true), (aU, false)] A = some b2 → lk [(aI, false), (aN, false), (aU, true)] A = some b3 → Q (.str (Txt.join "" (selZ ["slice", "undo", "number"] [b1, b2, b3]))) S →
      ∀ C' ds' S', (C' = A ∧ ds' = [some (.ref p), some ac, none, none, none, none] ∧ S' = S) → hTry (lk [(aI, true), (aN, true), (aU, true)]) (okL [(aI, true), (aN, true), (aU, true)]) 2 (fun C a => T_did_suite aU aI aN C a) (X0 E) ⟨fun _ S' => Q .non S', Q, fun _ _ => False, fun _ _ => False⟩ C' ds' S' := by
    rintro A b1 b2 b3 k0 k1 k2 k3 q C' ds' S' ⟨rfl, rfl, rfl⟩
    exact ⟨true, k0, fun _ => ⟨⟨true, k0⟩, fun e he => did_suite k1 k2 k3 q⟩, fun h => by cases h⟩
  have none_ : ∀ C' (ds' : Ds) (S' : Cells), False → hTry (lk [(aI, true), (aN, true), (aU, true)]) (okL [(aI, true), (aN, true), (aU, true)]) 2 (fun C a => T_did_suite aU aI aN C a) (X0 E) ⟨fun _ S' => Q .non S', Q, fun _ _ => False, fun _ _ => False⟩ C' ds' S' := fun _ _ _ h => h.elim
  have e1 : ¬ (decide ((("undo" : Str)) = ("slice" : Str))) = true := by decide
  have e2 : ¬ (decide ((("place" : Str)) = ("slice" : Str))) = true := by decide
  have e3 : ¬ (decide ((("place" : Str)) = ("undo" : Str))) = true := by decide
  cases hr with
  | @good _ one h =>
    have fl : ∀ o, Nr (dO o) := dO_nr
    refine ⟨fun _ _ _ => False, none_, _, rfl, _, at_0, _, sEq_ss, iteP (by decide) ⟨_, w.o, no_slice, _, rfl, _, at_1, _, rfl, _, at_2, _, rfl, _, rfl, p, s, v, n, cs, _, _, _, rfl, w, by omega, ho, hn, ⟨fl _, fl _, .int _⟩, .inr (.inr ⟨one, rfl, h, hl, q⟩)⟩⟩
  | @bad _ a b c h f =>
    have fc : Nr c := by rcases f.c with rfl | ⟨i, rfl⟩; exact .non; exact .int _
    exact ⟨_, wish aI true false false lk1 lk1 lk1 lk1 (q S w fun _ _ _ => rfl), _, rfl, _, at_0, _, sEq_ss, iteP (by decide) ⟨_, w.o, no_slice, _, rfl, _, at_1, _, rfl, _, at_2, _, rfl, _, rfl, p, s, v, n, cs, _, _, _, rfl, w, by omega, ho, hn, ⟨f.a.nr, f.b.nr, fc⟩, .inl ⟨h, rfl, rfl, rfl⟩⟩⟩
  | und0 => exact ⟨_, wish aN false true false (lk2 d1) (lk2 d1) (lk2 d1) (lk2 d1) (q S w fun _ _ _ => rfl), _, rfl, _, at_0, _, sEq_ss, iteN e1 ⟨_, rfl, _, at_0, _, sEq_ss, iteP (by decide) ⟨_, w.o, no_undo, p, s, v, n, [], rfl, w, .inl ⟨rfl, rfl, rfl, rfl⟩⟩⟩⟩
  | und h => exact ⟨fun _ _ _ => False, none_, _, rfl, _, at_0, _, sEq_ss, iteN e1 ⟨_, rfl, _, at_0, _, sEq_ss, iteP (by decide) ⟨_, w.o, no_undo, p, s, v, n, cs, rfl, w, .inr ⟨h, q⟩⟩⟩⟩
  | @plc _ k h0 h1 => exact ⟨fun _ _ _ => False, none_, _, rfl, _, at_0, _, sEq_ss, iteN e2 ⟨_, rfl, _, at_0, _, sEq_ss, iteN e3 ⟨_, w.o, no_place, _, rfl, _, at_1, p, s, v, n, cs, _, rfl, w, ho, hn, .int _, .inr ⟨k, rfl, h0, h1, q S w fun _ _ _ => rfl⟩⟩⟩⟩
  | @no _ x f h => exact ⟨_, wish aU false false true (lk3 d2 d3) (lk3 d2 d3) (lk3 d2 d3) (lk3 d2 d3) (q S w fun _ _ _ => rfl), _, rfl, _, at_0, _, sEq_ss, iteN e2 ⟨_, rfl, _, at_0, _, sEq_ss, iteN e3 ⟨_, w.o, no_place, _, rfl, _, at_1, p, s, v, n, cs, _, rfl, w, ho, hn, f.nr, .inl ⟨h, rfl, rfl, rfl⟩⟩⟩⟩
/-! ### the law -/
/-- both views and the list of slices -/
structure Sta (C : Addr) (S : Cells) (p s v p2 s2 v2 d : Addr) (n : Int) (cs : List Sl) : Prop where
  w : VAt C S p s v n cs
  w2 : VAt C S p2 s2 v2 n []
  hd : S d = some (.lst (cs.map dS))
  ds : d ≠ s
  dv : d ≠ v
  ds2 : d ≠ s2
  dv2 : d ≠ v2
  ps : p2 ≠ s
  pv : p2 ≠ v
  ss : s2 ≠ s
  sv : s2 ≠ v
  vs : v2 ≠ s
  vv : v2 ≠ v
theorem Sta.dp {C : Addr} {S : Cells} {p s v p2 s2 v2 d : Addr} {n : Int} {cs : List Sl} (h : Sta C S p s v p2 s2 v2 d n cs) : d ≠ p := fun e => by
  have := h.hd
  rw [e, h.w.o] at this
  cases this
theorem Sta.dp2 {C : Addr} {S : Cells} {p s v p2 s2 v2 d : Addr} {n : Int} {cs : List Sl} (h : Sta C S p s v p2 s2 v2 d n cs) : d ≠ p2 := fun e => by
  have := h.hd
  rw [e, h.w2.o] at this
  cases this
/-- all of it stands at other addresses than b -/
structure Off (b p s v p2 s2 v2 d : Addr) : Prop where
  p : b ≠ p
  s : b ≠ s
  v : b ≠ v
  p2 : b ≠ p2
  s2 : b ≠ s2
  v2 : b ≠ v2
  d : b ≠ d
theorem Sta.put {C : Addr} {S : Cells} {p s v p2 s2 v2 d b : Addr} {n : Int} {cs : List Sl} {c : Cell} (h : Sta C S p s v p2 s2 v2 d n cs) (o : Off b p s v p2 s2 v2 d) : Sta C (S.put b c) p s v p2 s2 v2 d n cs :=
  { h with w := h.w.of (Cells.put_ne o.p.symm) (Cells.put_ne o.s.symm) (Cells.put_ne o.v.symm), w2 := h.w2.of (Cells.put_ne o.p2.symm) (Cells.put_ne o.s2.symm) (Cells.put_ne o.v2.symm), hd := (Cells.put_ne o.d.symm).trans h.hd }
theorem Sta.off {C : Addr} {S : Cells} {p s v p2 s2 v2 d b : Addr} {n : Int} {cs : List Sl} (h : Sta C S p s v p2 s2 v2 d n cs) (hb : S b = none) : Off b p s v p2 s2 v2 d := by
  have no : ∀ x c, S x = some c → b ≠ x := fun x c e z => by
    rw [z, e] at hb
    cases hb
  exact ⟨no _ _ h.w.o, no _ _ h.w.l, no _ _ h.w.w, no _ _ h.w2.o, no _ _ h.w2.l, no _ _ h.w2.w, no _ _ h.hd⟩
/-- the list of slices has changed, then the view -/
theorem Sta.next {C : Addr} {S S1 S2 : Cells} {p s v p2 s2 v2 d : Addr} {n : Int} {cs cs' : List Sl} (h : Sta C S p s v p2 s2 v2 d n cs) (h1 : S1 d = some (.lst (cs'.map dS))) (f1 : ∀ a, a ≠ d → S1 a = S a) (w2 : VAt C S2 p s v n cs') (f2 : ∀ a, a ≠ s → a ≠ v → S2 a = S1 a) : Sta C S2 p s v p2 s2 v2 d n cs' :=
  { h with
    w := w2
    w2 := h.w2.of ((f2 _ h.ps h.pv).trans (f1 _ h.dp2.symm)) ((f2 _ h.ss h.sv).trans (f1 _ h.ds2.symm)) ((f2 _ h.vs h.vv).trans (f1 _ h.dv2.symm))
    hd := (f2 _ h.ds h.dv).trans h1 }
theorem res_eq {n : Int} {cs cs' : List Sl} {ac r : Dt} (h : Res n cs ac r cs') : sEq r r = some true := by
  cases h with
  | plc => rw [sEq_ii]; simp
  | _ => first | exact sEq_nn | (rw [sEq_ss]; simp)
theorem res_bool {n : Int} {cs cs' : List Sl} {ac r : Dt} {S : Cells} (h : Res n cs ac r cs') : isiD S "bool" r = some false := by
  cases h with
  | plc => exact isi_bool (.int _)
  | good => exact isi_bool .non
  | und => exact isi_bool .non
  | _ => exact isi_bool (.str _)
def T_law_turn (a_View : Addr) : TS2 :=
  (dSeq (dSet 8 (dCall sp__law_action (dCons (dVar 1) (dCons (dOp qIx (dCall sp__law_shown (dCons (dCB qTupOf (dCons (dVar 5) dNil)) (dCons (dVar 2) dNil))) (dC (.int 2))) dNil))))
  (dSeq (dSet 9 (dCall (sp_law_due) (dCons (dVar 2) (dCons (dVar 5) (dCons (dVar 8) dNil)))))
  (dSeq (dSet 10 (dCall (sp_law_did a_View) (dCons (dVar 3) (dCons (dVar 8) dNil))))
  (dSeq (dIfS (dOr (dTest (dOp qNe (dVar 10) (dVar 9))) (dTest (dIsi "bool" (dVar 10)))) (dRet (dC (.bl false))) dNext)
  (dSeq (dSet 11 (dCall sp__law_shown (dCons (dCB qTupOf (dCons (dVar 5) dNil)) (dCons (dVar 2) dNil))))
  (dSeq (dIfS (dOr (dTest (dOp qNeD (dMeth a_View "shown" (sp_View_shown a_View) (dVar 3) dNil) (dVar 11))) (dTest (dOp qNe (dCB (qLenO a_View (sp_View_len a_View)) (dCons (dVar 3) dNil)) (dCB qLen (dCons (dVar 5) dNil))))) (dRet (dC (.bl false))) dNext)
  (dIfS (dOr (dTest (dOp qNe (dOp (qEqO a_View (sp_View_eq a_View)) (dVar 3) (dVar 4)) (dOp qEqD (dVar 11) (dCall sp__law_shown (dCons (dTup dNil) (dCons (dVar 2) dNil)))))) (dTest (dOp (qEqO a_View (sp_View_eq a_View)) (dVar 3) (dVar 11)))) (dRet (dC (.bl false))) dNext)))))))
theorem law_turn {C : Addr} {x : XK2} {D : Ends2} {l k t : Dt} {x8 x9 x10 x11 : Option Dt} {b p s v p2 s2 v2 d : Addr} {n : Int} {cs : List Sl} {S : Cells} (h : Sta C S p s v p2 s2 v2 d n cs) (hl : cs.length < 60) (ho : ∀ s, s ∈ cs → okS s) (hn : 0 ≤ n ∧ n ≤ 1000000000000000) (hb : Bag S b) (o : Off b p s v p2 s2 v2 d)
    (hN : ∀ S' cs' y8 y9 y10 y11, Sta C S' p s v p2 s2 v2 d n cs' → cs'.length ≤ cs.length + 1 → (∀ s, s ∈ cs' → okS s) → Bag S' b → D.nx [some l, some (.ref b), some (.int n), some (.ref p), some (.ref p2), some (.ref d), some k, some t, y8, y9, y10, y11] S') :
    T_law_turn C x D [some l, some (.ref b), some (.int n), some (.ref p), some (.ref p2), some (.ref d), some k, some t, x8, x9, x10, x11] S := by
  unfold T_law_turn dMeth
  walk_at "wp"
  refine ⟨_, asQ_ref h.hd, (cs, n), rfl, ⟨ho, hn.1, by show n ≤ 10 ^ 18; omega⟩, ?_⟩
  have m0 := shownF_count cs (0, 1, n) ho hn.1
  have m1 : 0 ≤ (shown cs n).2.2 ∧ (shown cs n).2.2 ≤ n := m0
  refine ⟨_, rfl, _, at_2, b, (shown cs n).2.2, rfl, hb, ⟨m1.1, by omega⟩, fun ac c1 s1 ha => ?_⟩
  obtain ⟨r, cs', hr, ho', hl'⟩ := Act.res ha (n := n) ho
  have h1 := h.put (c := .lst [.int c1, .int s1]) o
  obtain ⟨S0, e0⟩ : ∃ S0, S0 = S.put b (.lst [.int c1, .int s1]) := ⟨_, rfl⟩
  rw [← e0] at h1 ⊢
  have b0 : Bag S0 b := ⟨c1, s1, by rw [e0, Cells.put_same]⟩
  refine ⟨n, d, cs, ac, r, cs', rfl, h1.hd, ho, by omega, hn, hr, fun S1 g1 f1 => ⟨p, s, v, n, cs, ac, r, cs', rfl, h1.w.of (f1 _ h1.dp.symm) (f1 _ h1.ds.symm) (f1 _ h1.dv.symm), ho, hl, hn, hr, fun S2 w2 f2 => ?_⟩⟩
  have h2 := h1.next g1 f1 w2 f2
  have b2 : Bag S2 b := by
    obtain ⟨c, s, e⟩ := b0
    exact ⟨c, s, ((f2 b o.s o.v).trans (f1 b o.d)).trans e⟩
  refine ⟨_, res_eq hr, iteN (by decide) ⟨_, res_bool hr, iteN (by decide) ⟨_, asQ_ref h2.hd, (cs', n), rfl, ⟨ho', hn.1, by show n ≤ 10 ^ 18; omega⟩, _, h2.w.o, no_shown, p, s, v, n, cs', rfl, h2.w, ne_self (n := 1) (dCl_ok _) (by decide) ⟨false, rfl, iteN (by decide) ?_⟩⟩⟩⟩
  refine ⟨p, _, rfl, h2.w.o, p, s, v, n, cs', rfl, h2.w, _, rfl, ⟨by omega, by omega⟩, _, asQ_ref h2.hd, _, sEq_ii, iteN (by simp) ?_⟩
  refine ⟨p, _, rfl, h2.w.o, .inl ⟨p2, _, rfl, h2.w2.o⟩, p, s, v, n, cs', .ref p2, rfl, h2.w, .inl ⟨p2, s2, v2, n, [], rfl, h2.w2, _, rfl, by decide, ([], n), rfl, ⟨(fun s hs => nomatch hs), hn.1, by show n ≤ 10 ^ 18; omega⟩, _, DEq.mk (n := 1) (m := 1) (dCl_ok _) (dCl_ok _) dCl_inj.symm, _, sEq_bb, iteN (by simp) ?_⟩⟩
  exact ⟨p, _, rfl, h2.w.o, .inr ⟨_, rfl⟩, p, s, v, n, cs', _, rfl, h2.w, .inr ⟨_, rfl, _, rfl, _, rfl, iteN (by decide) (hN _ _ _ _ _ _ h2 hl' ho' b2)⟩⟩
theorem VAt.fresh {C : Addr} {S S' : Cells} {p s v p3 s3 v3 : Addr} {n : Int} {cs : List Sl} {c : Cell} (w : VAt C S p s v n cs) (h1 : S p3 = none) (h2 : (S.put p3 c) s3 = none) (h3 : (S.put p3 c) v3 = none) (fr : ∀ a, a ≠ p3 → a ≠ s3 → a ≠ v3 → S' a = (S.put p3 c) a) : VAt C S' p s v n cs := by
  have go : ∀ x y, S x = some y → S' x = S x := fun x y e => by
    have n1 : x ≠ p3 := fun z => by
      rw [z, h1] at e
      cases e
    have e' : (S.put p3 c) x = some y := (Cells.put_ne n1).trans e
    have n2 : x ≠ s3 := fun z => by
      rw [z, h2] at e'
      cases e'
    have n3 : x ≠ v3 := fun z => by
      rw [z, h3] at e'
      cases e'
    exact (fr x n1 n2 n3).trans (Cells.put_ne n1)
  exact w.of (go _ _ w.o) (go _ _ w.l) (go _ _ w.w)
def T_law_end (a_NothingToUndo a_View : Addr) : TS2 :=
  (dSeq (dWhile (dTest (dOp qNeD (dVar 5) (dLst dNil))) (dSeq (dDrop (dMt qPop (dVar 5) dNil))
  (dIfS (dOr (dTest (dOp qNotN (dMeth a_View "undo" (sp_View_undo a_View a_NothingToUndo) (dVar 3) dNil) (dC .non))) (dTest (dOp qNeD (dMeth a_View "shown" (sp_View_shown a_View) (dVar 3) dNil) (dCall sp__law_shown (dCons (dCB qTupOf (dCons (dVar 5) dNil)) (dCons (dVar 2) dNil)))))) (dRet (dC (.bl false))) dNext)))
  (dSeq (dIfS (dTest (dOp qNe (dCall (sp_law_did a_View) (dCons (dVar 3) (dCons (dTup (dCons (dC (.str "undo")) dNil)) dNil))) (dC (.str "undo")))) (dRet (dC (.bl false))) dNext)
  (dRet (dAndV (dOp (qEqO a_View (sp_View_eq a_View)) (dVar 3) (dVar 4)) (dNotV (dOp (qEqO a_View (sp_View_eq a_View)) (dVar 3) (dMake a_View (sp_View_init a_View) (dCons (dIf (dTest (dOp qLt (dVar 2) (dC (.int 9)))) (dOp qAdd (dVar 2) (dC (.int 1))) (dOp qSub (dVar 2) (dC (.int 1)))) dNil))))))))
theorem law_end {aN C : Addr} {x : XK2} {D : Ends2} {l : Dt} {x1 x6 x7 x8 x9 x10 x11 : Option Dt} {p s v p2 s2 v2 d : Addr} {n : Int} {cs : List Sl} {S : Cells} (h : Sta C S p s v p2 s2 v2 d n cs) (hl : cs.length < 60) (ho : ∀ s, s ∈ cs → okS s) (hn : 0 ≤ n ∧ n ≤ 1000000000000000) (q : ∀ S', D.rt (.bl true) S') :
    T_law_end aN C x D [some l, x1, some (.int n), some (.ref p), some (.ref p2), some (.ref d), x6, x7, x8, x9, x10, x11] S := by
  unfold T_law_end dMeth dMake
  walk_at "wp"
  refine wh_inv (fun (cs : List Sl) ds S => Sta C S p s v p2 s2 v2 d n cs ∧ cs.length < 60 ∧ (∀ s, s ∈ cs → okS s) ∧ ds = [some l, x1, some (.int n), some (.ref p), some (.ref p2), some (.ref d), x6, x7, x8, x9, x10, x11]) (fun cs => cs.length) ?_ (a := cs) ⟨h, hl, ho, rfl⟩
  rintro cs ds S N ⟨h, hl, ho, rfl⟩ hN
  walk_at "wp"
  have rv : rsv S (.ref d) = .lst (cs.map dS) := by simp only [rsv, h.hd]
  refine ⟨by decide, .inl ?_⟩
  rcases List.eq_nil_or_concat cs with rfl | ⟨c0, one, rfl⟩
  · refine ⟨true, ⟨1, 1, by decide, by decide, by rw [rv]; exact .lst fun _ h => (nomatch h), .lst fun _ h => (nomatch h), by rw [rv]; exact ⟨fun _ => rfl, fun _ => rfl⟩⟩, ?_⟩
    walk_at "wp"
    refine iteN (by decide) ⟨by decide, p, s, v, n, [], _, _, _, rfl, h.w, ho, hl, hn, .und0, fun S1 w1 f1 => ⟨_, sEq_ss, iteN (by simp) ?_⟩⟩
    have w21 : VAt C S1 p2 s2 v2 n [] := h.w2.of (f1 _ h.ps h.pv) (f1 _ h.ss h.sv) (f1 _ h.vs h.vv)
    have last : ∀ m : Int, m ≠ n → 0 ≤ m ∧ m ≤ 1000000000000000 → ∀ p3, S1 p3 = none → sp_View_init C [.ref p3, .int m] (S1.put p3 (.ins C [])) (fun d S2 => d = .non ∧ qEqO C (sp_View_eq C) (.ref p) (.ref p3) S2 fun d S1 => ∃ k, d = .bl k ∧ D.rt (.bl !k) S1) fun _ _ => False := fun m hm hb p3 hp3 => by
      refine ⟨p3, m, rfl, Cells.put_same, hb, fun S3 s3 v3 w3 hs3 hv3 fr3 => ⟨rfl, ?_⟩⟩
      have w13 := w1.fresh hp3 hs3 hv3 fr3
      have key : ∀ b : Bool, b = false → D.rt (.bl (!b)) S3 := fun b hb => by
        rw [hb]
        exact q S3
      exact ⟨p, _, rfl, w13.o, .inl ⟨p3, _, rfl, w3.o⟩, p, s, v, n, [], .ref p3, rfl, w13, .inl ⟨p3, s3, v3, m, [], rfl, w3, _, rfl, _, rfl, key _ (decide_eq_false fun z => hm z.1.symm)⟩⟩
    exact ⟨p, _, rfl, w1.o, .inl ⟨p2, _, rfl, w21.o⟩, p, s, v, n, [], .ref p2, rfl, w1, .inl ⟨p2, s2, v2, n, [], rfl, w21, _, rfl, _, rfl, iteP (by simp) (ite2 (fun h9 => last (n + 1) (by omega) ⟨by omega, by omega⟩) fun h9 => last (n - 1) (by omega) ⟨by omega, by omega⟩)⟩⟩
  · rw [List.concat_eq_append] at *
    have ne : (c0 ++ [one]).map dS ≠ [] := by simp
    obtain ⟨z, ez⟩ : ∃ z, ((c0 ++ [one]).map dS)[((c0 ++ [one]).map dS).length - 1]? = some z := ⟨((c0 ++ [one]).map dS)[((c0 ++ [one]).map dS).length - 1]'(by have := List.length_pos_iff.mpr ne; omega), List.getElem?_eq_getElem _⟩
    refine ⟨false, ⟨2, 1, by decide, by decide, ?_, .lst fun _ h => (nomatch h), ?_⟩, ?_⟩
    · rw [rv]
      exact .lst fun x hx => by
        obtain ⟨s, _, rfl⟩ := List.mem_map.mp hx
        exact dS_ok s
    · rw [rv]
      exact ⟨(fun e => nomatch e), fun e => absurd (Dt.lst.inj e) ne⟩
    · walk_at "wp"
      refine iteP rfl ⟨⟨_, asL_ref h.hd⟩, d, _, z, rfl, rfl, h.hd, ez, ?_⟩
      obtain ⟨S1, e1⟩ : ∃ S1, S1 = S.put d (.lst ((c0 ++ [one]).map dS).dropLast) := ⟨_, rfl⟩
      have g1 : S1 d = some (.lst (c0.map dS)) := by
        rw [e1, Cells.put_same, List.map_append, List.map_singleton, List.dropLast_concat]
      have f1 : ∀ a, a ≠ d → S1 a = S a := fun a ha => by rw [e1, Cells.put_ne ha]
      rw [← e1]
      have w1 : VAt C S1 p s v n (c0 ++ [one]) := h.w.of (f1 _ h.dp.symm) (f1 _ h.ds.symm) (f1 _ h.dv.symm)
      refine ⟨_, w1.o, no_undo, p, s, v, n, c0 ++ [one], rfl, w1, .inr ⟨by simp, fun S2 w2 f2 => iteN (by decide) ?_⟩⟩
      rw [List.dropLast_concat] at w2
      have h2 : Sta C S2 p s v p2 s2 v2 d n c0 := h.next g1 f1 w2 f2
      have ho2 : ∀ s, s ∈ c0 → okS s := fun s hs => ho s (List.mem_append_left _ hs)
      have hl2 : c0.length + 1 < 60 := by rw [List.length_append, List.length_singleton] at hl; exact hl
      exact ⟨_, h2.w.o, no_shown, p, s, v, n, c0, rfl, h2.w, _, asQ_ref h2.hd, (c0, n), rfl, ⟨ho2, hn.1, by show n ≤ 10 ^ 18; omega⟩, ne_self (n := 1) (dCl_ok _) (by decide) ⟨false, rfl, iteN (by decide) (hN c0 _ _ (by rw [List.length_append, List.length_singleton]; omega) ⟨h2, by omega, ho2, rfl⟩)⟩⟩
def T_law (a_NothingToUndo : Addr) (a_View : Addr) : TS2 :=
  (dSeq (dSet 1 (dCall sp__law_bag (dCons (dVar 0) (dCons (dC (.int 0)) dNil))))
  (dSeq (dSet 2 (dCall sp__law_of (dCons (dVar 1) (dCons (dLst (dCons (dCall sp__law_take (dCons (dVar 1) (dCons (dC (.int 30)) dNil))) (dCons (dOp qPow (dC (.int 10)) (dC (.int 15))) (dCons (dCall sp__law_take (dCons (dVar 1) (dCons (dOp qPow (dC (.int 10)) (dC (.int 6))) dNil))) dNil)))) dNil))))
  (dSeq (dPar3 3 4 5 (dCons (dMake a_View (sp_View_init a_View) (dCons (dVar 2) dNil)) (dCons (dMake a_View (sp_View_init a_View) (dCons (dVar 2) dNil)) (dCons (dLst dNil) dNil))))
  (dSeq (dFor (dRng1 (dOp qAdd (dCB qMin2 (dCons (dCB qLen (dCons (dVar 0) dNil)) (dCons (dC (.int 8)) dNil))) (dC (.int 1)))) (kName 6) (dSeq (dSet 1 (dCall sp__law_bag (dCons (dVar 0) (dCons (dVar 6) dNil))))
  (dFor (dRng1 (dC (.int 5))) (kName 7) (T_law_turn a_View))))
  (T_law_end a_NothingToUndo a_View)))))
theorem pure_law (aN C : Addr) : Pure 12 sp_law (T_law aN C) := by
  rintro ds S Q E frg ⟨ns, rfl, hl, q⟩
  unfold T_law dMake
  walk_at "wp"
  refine ⟨ns, 0, rfl, by decide, by decide, fun b0 c0 s0 hb0 => ?_⟩
  refine ⟨b0, 30, rfl, Bag.put, ⟨by decide, by decide⟩, fun r1 c1 s1 hr1 => ⟨⟨by decide, by decide, by decide⟩, ⟨by decide, by decide, by decide⟩, b0, _, rfl, Bag.put, ⟨by decide, by decide⟩, fun r2 c2 s2 hr2 => ⟨by decide, .inl ⟨b0, _, rfl, Bag.put, ⟨by show 0 < 3; decide, by show 3 ≤ 100000; decide⟩, fun z c3 s3 hz => ?_⟩⟩⟩⟩
  have hz : z ∈ [Dt.int r1, .int (10 ^ Int.toNat 15), .int r2] := hz
  have nn : ∃ n : Int, z = .int n ∧ 0 ≤ n ∧ n ≤ 1000000000000000 := by
    have hr1 : 0 ≤ r1 ∧ r1 < 30 := hr1
    have hr2 : 0 ≤ r2 ∧ r2 < 10 ^ Int.toNat 6 := hr2
    have e6 : (10 : Int) ^ Int.toNat 6 = 1000000 := by decide
    simp only [List.mem_cons, List.not_mem_nil, or_false] at hz
    rcases hz with rfl | rfl | rfl
    · exact ⟨_, rfl, hr1.1, by omega⟩
    · exact ⟨_, rfl, by decide, by decide⟩
    · exact ⟨_, rfl, hr2.1, by omega⟩
  obtain ⟨n, rfl, n0, n1⟩ := nn
  obtain ⟨S0, e0⟩ : ∃ S0, S0 = (((S.put b0 (.lst [.int c0, .int s0])).put b0 (.lst [.int c1, .int s1])).put b0 (.lst [.int c2, .int s2])).put b0 (.lst [.int c3, .int s3]) := ⟨_, rfl⟩
  rw [← e0]
  intro p hp
  refine ⟨p, n, rfl, Cells.put_same, ⟨n0, n1⟩, fun S1 s v w1 hs hv fr1 => ⟨rfl, fun p2 hp2 => ?_⟩⟩
  refine ⟨p2, n, rfl, Cells.put_same, ⟨n0, n1⟩, fun S2 s2 v2 w2 hs2 hv2 fr2 => ⟨rfl, by decide, .inr fun d hd => ?_⟩⟩
  have w12 := w1.fresh hp2 hs2 hv2 fr2
  have no : ∀ {S : Cells} x y c, S y = none → S x = some c → y ≠ x := fun {S} x y c h e z => by
    rw [z, e] at h
    cases h
  have ps : p2 ≠ s := no _ _ _ hp2 w1.l
  have pv : p2 ≠ v := no _ _ _ hp2 w1.w
  have l1 : (S1.put p2 (.ins C [])) s = some (.lst (([] : List Sl).map dS)) := (Cells.put_ne ps.symm).trans w1.l
  have l2 : (S1.put p2 (.ins C [])) v = some (.lst (vw [] n)) := (Cells.put_ne pv.symm).trans w1.w
  have st : Sta C (S2.put d (.lst [])) p s v p2 s2 v2 d n [] := by
    have dp := no _ _ _ hd w12.o
    have ds := no _ _ _ hd w12.l
    have dv := no _ _ _ hd w12.w
    have dp2 := no _ _ _ hd w2.o
    have ds2 := no _ _ _ hd w2.l
    have dv2 := no _ _ _ hd w2.w
    exact ⟨w12.of (Cells.put_ne dp.symm) (Cells.put_ne ds.symm) (Cells.put_ne dv.symm), w2.of (Cells.put_ne dp2.symm) (Cells.put_ne ds2.symm) (Cells.put_ne dv2.symm), Cells.put_same, ds, dv, ds2, dv2, ps, pv, no _ _ _ hs2 l1, no _ _ _ hs2 l2, no _ _ _ hv2 l1, no _ _ _ hv2 l2⟩
  have b : -1000000000000000000 ≤ (if (8 : Int) < ((ns.map Dt.int).length : Int) then (8 : Int) else ((ns.map Dt.int).length : Int)) + 1 ∧ (if (8 : Int) < ((ns.map Dt.int).length : Int) then (8 : Int) else ((ns.map Dt.int).length : Int)) + 1 ≤ 9 := by
    split <;> omega
  refine ⟨b.1, by omega, ?_⟩
  refine loop_rng (fun i ds S' => ∃ cs, Sta C S' p s v p2 s2 v2 d n cs ∧ cs.length ≤ 5 * i ∧ (∀ s, s ∈ cs → okS s) ∧ ∃ x1 x6 x7 x8 x9 x10 x11, ds = [some (.lst (ns.map Dt.int)), x1, some (.int n), some (.ref p), some (.ref p2), some (.ref d), x6, x7, x8, x9, x10, x11]) ⟨[], st, Nat.zero_le _, (fun _ h => nomatch h), _, _, _, _, _, _, _, rfl⟩ ?_ ?_
  · rintro i ds S' N hi ⟨cs, st, hl, ho, _, _, _, _, _, _, _, rfl⟩ hN
    have hi : i < 9 := by omega
    walk_at "wp"
    refine ⟨ns, 0 + (i : Int), rfl, by omega, by omega, fun b c s0 hb => ?_⟩
    refine ⟨by decide, by decide, ?_⟩
    refine loop_rng (fun j ds S' => ∃ cs, Sta C S' p s v p2 s2 v2 d n cs ∧ cs.length ≤ 5 * i + j ∧ (∀ s, s ∈ cs → okS s) ∧ Bag S' b ∧ ∃ x7 x8 x9 x10 x11, ds = [some (.lst (ns.map Dt.int)), some (.ref b), some (.int n), some (.ref p), some (.ref p2), some (.ref d), some (.int (0 + (i : Int))), x7, x8, x9, x10, x11]) ⟨cs, st.put (st.off hb), hl, ho, Bag.put, _, _, _, _, _, rfl⟩ ?_ ?_
    · rintro j ds S3 N3 hj ⟨cs, st3, hl3, ho3, hb3, _, _, _, _, _, rfl⟩ hN3
      have hj : j < 5 := hj
      walk_at "wp"
      exact law_turn st3 (by omega) ho3 ⟨n0, n1⟩ hb3 (st.off hb) fun S4 cs4 y8 y9 y10 y11 st4 hl4 ho4 hb4 => hN3 _ _ ⟨cs4, st4, by omega, ho4, hb4, _, _, _, _, _, rfl⟩
    · rintro ds S3 ⟨cs, st3, hl3, ho3, hb3, _, _, _, _, _, rfl⟩
      have hl3 : cs.length ≤ 5 * i + 5 := hl3
      exact hN _ _ ⟨cs, st3, by omega, ho3, _, _, _, _, _, _, _, rfl⟩
  · rintro ds S' ⟨cs, st, hl, ho, _, _, _, _, _, _, _, rfl⟩
    exact law_end st (by omega) ho ⟨n0, n1⟩ fun S' => q S'

def top (i : Nat) : Stmt := PySem.Challenge.pw_slicechains_k19_whole_a_view_step_by_ste.main.body.getD i (.Pass ⟨0, 0, 0, 0⟩)
abbrev s_is_integer : Stmt := top 11
abbrev N_is_integer : List Str := ["value", "low", "high"]
theorem sc_is_integer : FnScope N_is_integer ["value", "low", "high"] (defScope s_is_integer) := ⟨rfl, rfl, rfl, by decide +kernel, rfl, by decide +kernel, by decide +kernel⟩
abbrev s_is_bound : Stmt := top 12
abbrev N_is_bound : List Str := ["value"]
theorem sc_is_bound : FnScope N_is_bound ["value"] (defScope s_is_bound) := ⟨rfl, rfl, rfl, by decide +kernel, rfl, by decide +kernel, by decide +kernel⟩
abbrev s_is_step : Stmt := top 13
abbrev N_is_step : List Str := ["value"]
theorem sc_is_step : FnScope N_is_step ["value"] (defScope s_is_step) := ⟨rfl, rfl, rfl, by decide +kernel, rfl, by decide +kernel, by decide +kernel⟩
abbrev s_is_slice : Stmt := top 14
abbrev N_is_slice : List Str := ["value"]
theorem sc_is_slice : FnScope N_is_slice ["value"] (defScope s_is_slice) := ⟨rfl, rfl, rfl, by decide +kernel, rfl, by decide +kernel, by decide +kernel⟩
abbrev s_require_length : Stmt := top 15
abbrev N_require_length : List Str := ["length", "most"]
theorem sc_require_length : FnScope N_require_length ["length", "most"] (defScope s_require_length) := ⟨rfl, rfl, rfl, by decide +kernel, rfl, by decide +kernel, by decide +kernel⟩
abbrev s_moved : Stmt := top 16
abbrev N_moved : List Str := ["bound", "count", "low", "high", "place"]
theorem sc_moved : FnScope N_moved ["bound", "count", "low", "high"] (defScope s_moved) := ⟨rfl, rfl, rfl, by decide +kernel, rfl, by decide +kernel, by decide +kernel⟩
abbrev s_ends : Stmt := top 17
abbrev N_ends : List Str := ["one", "count", "start", "stop", "step", "first"]
theorem sc_ends : FnScope N_ends ["one", "count"] (defScope s_ends) := ⟨rfl, rfl, rfl, by decide +kernel, rfl, by decide +kernel, by decide +kernel⟩
abbrev s_applied : Stmt := top 18
abbrev N_applied : List Str := ["one", "shown", "first", "step", "count", "begin", "end", "many"]
theorem sc_applied : FnScope N_applied ["one", "shown"] (defScope s_applied) := ⟨rfl, rfl, rfl, by decide +kernel, rfl, by decide +kernel, by decide +kernel⟩
abbrev s_cleaned : Stmt := top 20
abbrev N_cleaned : List Str := ["shown", "first", "step", "count"]
theorem sc_cleaned : FnScope N_cleaned ["shown"] (defScope s_cleaned) := ⟨rfl, rfl, rfl, by decide +kernel, rfl, by decide +kernel, by decide +kernel⟩
abbrev s_View___init__ : Stmt := inClass (top 23) 0
abbrev N_View___init__ : List Str := ["self", "length"]
theorem sc_View___init__ : FnScope N_View___init__ ["self", "length"] (defScope s_View___init__) := ⟨rfl, rfl, rfl, by decide +kernel, rfl, by decide +kernel, by decide +kernel⟩
abbrev s_View___len__ : Stmt := inClass (top 23) 1
abbrev N_View___len__ : List Str := ["self"]
theorem sc_View___len__ : FnScope N_View___len__ ["self"] (defScope s_View___len__) := ⟨rfl, rfl, rfl, by decide +kernel, rfl, by decide +kernel, by decide +kernel⟩
abbrev s_View___eq__ : Stmt := inClass (top 23) 2
abbrev N_View___eq__ : List Str := ["self", "other"]
theorem sc_View___eq__ : FnScope N_View___eq__ ["self", "other"] (defScope s_View___eq__) := ⟨rfl, rfl, rfl, by decide +kernel, rfl, by decide +kernel, by decide +kernel⟩
abbrev s_View_slice : Stmt := inClass (top 23) 3
abbrev N_View_slice : List Str := ["self", "start", "stop", "step", "one"]
theorem sc_View_slice : FnScope N_View_slice ["self", "start", "stop", "step"] (defScope s_View_slice) := ⟨rfl, rfl, rfl, by decide +kernel, rfl, by decide +kernel, by decide +kernel⟩
abbrev s_View_undo : Stmt := inClass (top 23) 4
abbrev N_View_undo : List Str := ["self"]
theorem sc_View_undo : FnScope N_View_undo ["self"] (defScope s_View_undo) := ⟨rfl, rfl, rfl, by decide +kernel, rfl, by decide +kernel, by decide +kernel⟩
abbrev s_View_shown : Stmt := inClass (top 23) 5
abbrev N_View_shown : List Str := ["self"]
theorem sc_View_shown : FnScope N_View_shown ["self"] (defScope s_View_shown) := ⟨rfl, rfl, rfl, by decide +kernel, rfl, by decide +kernel, by decide +kernel⟩
abbrev s_View_place : Stmt := inClass (top 23) 6
abbrev N_View_place : List Str := ["self", "number", "first", "step", "count"]
theorem sc_View_place : FnScope N_View_place ["self", "number"] (defScope s_View_place) := ⟨rfl, rfl, rfl, by decide +kernel, rfl, by decide +kernel, by decide +kernel⟩
abbrev s__law_bag : Stmt := top 25
abbrev N__law_bag : List Str := ["_law_script", "_law_k", "_law_cell", "_law_seed"]
theorem sc__law_bag : FnScope N__law_bag ["_law_script", "_law_k"] (defScope s__law_bag) := ⟨rfl, rfl, rfl, by decide +kernel, rfl, by decide +kernel, by decide +kernel⟩
abbrev s__law_take : Stmt := top 26
abbrev N__law_take : List Str := ["_law_bag_here", "_law_count", "_law_found"]
theorem sc__law_take : FnScope N__law_take ["_law_bag_here", "_law_count"] (defScope s__law_take) := ⟨rfl, rfl, rfl, by decide +kernel, rfl, by decide +kernel, by decide +kernel⟩
abbrev s__law_of : Stmt := top 27
abbrev N__law_of : List Str := ["_law_bag_here", "_law_some"]
theorem sc__law_of : FnScope N__law_of ["_law_bag_here", "_law_some"] (defScope s__law_of) := ⟨rfl, rfl, rfl, by decide +kernel, rfl, by decide +kernel, by decide +kernel⟩
abbrev s__law_bound : Stmt := top 28
abbrev N__law_bound : List Str := ["_law_bag_here", "_law_wide"]
theorem sc__law_bound : FnScope N__law_bound ["_law_bag_here", "_law_wide"] (defScope s__law_bound) := ⟨rfl, rfl, rfl, by decide +kernel, rfl, by decide +kernel, by decide +kernel⟩
abbrev s__law_slice : Stmt := top 29
abbrev N__law_slice : List Str := ["_law_bag_here", "_law_wide"]
theorem sc__law_slice : FnScope N__law_slice ["_law_bag_here", "_law_wide"] (defScope s__law_slice) := ⟨rfl, rfl, rfl, by decide +kernel, rfl, by decide +kernel, by decide +kernel⟩
abbrev s__law_chain : Stmt := top 30
abbrev N__law_chain : List Str := ["_law_bag_here", "_law_most", "_law_wide", "_law_turn"]
theorem sc__law_chain : FnScope N__law_chain ["_law_bag_here", "_law_most", "_law_wide"] (defScope s__law_chain) := ⟨rfl, rfl, rfl, by decide +kernel, rfl, by decide +kernel, by decide +kernel⟩
abbrev s__law_part : Stmt := top 31
abbrev N__law_part : List Str := ["_law_one", "_law_c", "_law_start", "_law_stop", "_law_step", "_law_low", "_law_high"]
theorem sc__law_part : FnScope N__law_part ["_law_one", "_law_c"] (defScope s__law_part) := ⟨rfl, rfl, rfl, by decide +kernel, rfl, by decide +kernel, by decide +kernel⟩
abbrev s__law_shown : Stmt := top 32
abbrev N__law_shown : List Str := ["_law_chain_here", "_law_length", "_law_first", "_law_step", "_law_count_so", "_law_one", "_law_begin", "_law_many"]
theorem sc__law_shown : FnScope N__law_shown ["_law_chain_here", "_law_length"] (defScope s__law_shown) := ⟨rfl, rfl, rfl, by decide +kernel, rfl, by decide +kernel, by decide +kernel⟩
abbrev s__law_weights : Stmt := top 33
abbrev N__law_weights : List Str := ["_law_chain_here", "_law_total", "_law_weight", "_law_start", "_law_stop", "_law_step"]
theorem sc__law_weights : FnScope N__law_weights ["_law_chain_here"] (defScope s__law_weights) := ⟨rfl, rfl, rfl, by decide +kernel, rfl, by decide +kernel, by decide +kernel⟩
abbrev s__law_did : Stmt := top 34
abbrev N__law_did : List Str := ["_law_run", "_law_action_here", "e", "_law_some", "_law_good_here", "_law_word"]
theorem sc__law_did : FnScope N__law_did ["_law_run", "_law_action_here"] (defScope s__law_did) := ⟨rfl, rfl, rfl, by decide +kernel, rfl, by decide +kernel, by decide +kernel⟩
abbrev s__law_action : Stmt := top 35
abbrev N__law_action : List Str := ["_law_bag_here", "_law_many", "_law_way", "_law_start", "_law_stop", "_law_step", "_law_odd"]
theorem sc__law_action : FnScope N__law_action ["_law_bag_here", "_law_many"] (defScope s__law_action) := ⟨rfl, rfl, rfl, by decide +kernel, rfl, by decide +kernel, by decide +kernel⟩
abbrev s__law_good : Stmt := top 36
abbrev N__law_good : List Str := ["_law_one", "_law_bound_here"]
theorem sc__law_good : FnScope N__law_good ["_law_one"] (defScope s__law_good) := ⟨rfl, rfl, rfl, by decide +kernel, rfl, by decide +kernel, by decide +kernel⟩
abbrev s__law_due : Stmt := top 37
abbrev N__law_due : List Str := ["_law_length", "_law_done", "_law_action_here", "_law_first", "_law_step", "_law_many", "_law_number"]
theorem sc__law_due : FnScope N__law_due ["_law_length", "_law_done", "_law_action_here"] (defScope s__law_due) := ⟨rfl, rfl, rfl, by decide +kernel, rfl, by decide +kernel, by decide +kernel⟩
abbrev s_law : Stmt := top 38
abbrev N_law : List Str := ["_law_script", "_law_bag_here", "_law_length", "_law_run", "_law_twin", "_law_done", "_law_k", "_law_turn", "_law_action_here", "_law_due_here", "_law_told", "_law_shown_here"]
theorem sc_law : FnScope N_law ["_law_script"] (defScope s_law) := ⟨rfl, rfl, rfl, by decide +kernel, rfl, by decide +kernel, by decide +kernel⟩
/-- what the top has written -/
structure Tx (K : PySem.W.Frag) (mg : Str → Option Value) : Prop where
  f_is_integer : ∃ fd, FunD K "is_integer" "is_integer" (defArgs s_is_integer) (defBody s_is_integer) (defScope s_is_integer) [] [] (He.ga K "is_integer") fd
  g_is_integer : mg "is_integer" = some (.ref (He.ga K "is_integer"))
  f_is_bound : ∃ fd, FunD K "is_bound" "is_bound" (defArgs s_is_bound) (defBody s_is_bound) (defScope s_is_bound) [] [] (He.ga K "is_bound") fd
  g_is_bound : mg "is_bound" = some (.ref (He.ga K "is_bound"))
  f_is_step : ∃ fd, FunD K "is_step" "is_step" (defArgs s_is_step) (defBody s_is_step) (defScope s_is_step) [] [] (He.ga K "is_step") fd
  g_is_step : mg "is_step" = some (.ref (He.ga K "is_step"))
  f_is_slice : ∃ fd, FunD K "is_slice" "is_slice" (defArgs s_is_slice) (defBody s_is_slice) (defScope s_is_slice) [] [] (He.ga K "is_slice") fd
  g_is_slice : mg "is_slice" = some (.ref (He.ga K "is_slice"))
  f_require_length : ∃ fd, FunD K "require_length" "require_length" (defArgs s_require_length) (defBody s_require_length) (defScope s_require_length) [] [] (He.ga K "require_length") fd
  g_require_length : mg "require_length" = some (.ref (He.ga K "require_length"))
  f_moved : ∃ fd, FunD K "moved" "moved" (defArgs s_moved) (defBody s_moved) (defScope s_moved) [] [] (He.ga K "moved") fd
  g_moved : mg "moved" = some (.ref (He.ga K "moved"))
  f_ends : ∃ fd, FunD K "ends" "ends" (defArgs s_ends) (defBody s_ends) (defScope s_ends) [] [] (He.ga K "ends") fd
  g_ends : mg "ends" = some (.ref (He.ga K "ends"))
  f_applied : ∃ fd, FunD K "applied" "applied" (defArgs s_applied) (defBody s_applied) (defScope s_applied) [] [] (He.ga K "applied") fd
  g_applied : mg "applied" = some (.ref (He.ga K "applied"))
  f_cleaned : ∃ fd, FunD K "cleaned" "cleaned" (defArgs s_cleaned) (defBody s_cleaned) (defScope s_cleaned) [] [] (He.ga K "cleaned") fd
  g_cleaned : mg "cleaned" = some (.ref (He.ga K "cleaned"))
  f_View___init__ : ∃ fd, FunD K "__init__" "View.__init__" (defArgs s_View___init__) (defBody s_View___init__) (defScope s_View___init__) [] [] (He.ma K (He.ga K "View") "__init__") fd
  f_View___len__ : ∃ fd, FunD K "__len__" "View.__len__" (defArgs s_View___len__) (defBody s_View___len__) (defScope s_View___len__) [] [] (He.ma K (He.ga K "View") "__len__") fd
  f_View___eq__ : ∃ fd, FunD K "__eq__" "View.__eq__" (defArgs s_View___eq__) (defBody s_View___eq__) (defScope s_View___eq__) [] [] (He.ma K (He.ga K "View") "__eq__") fd
  f_View_slice : ∃ fd, FunD K "slice" "View.slice" (defArgs s_View_slice) (defBody s_View_slice) (defScope s_View_slice) [] [] (He.ma K (He.ga K "View") "slice") fd
  f_View_undo : ∃ fd, FunD K "undo" "View.undo" (defArgs s_View_undo) (defBody s_View_undo) (defScope s_View_undo) [] [] (He.ma K (He.ga K "View") "undo") fd
  f_View_shown : ∃ fd, FunD K "shown" "View.shown" (defArgs s_View_shown) (defBody s_View_shown) (defScope s_View_shown) [] [] (He.ma K (He.ga K "View") "shown") fd
  f_View_place : ∃ fd, FunD K "place" "View.place" (defArgs s_View_place) (defBody s_View_place) (defScope s_View_place) [] [] (He.ma K (He.ga K "View") "place") fd
  f__law_bag : ∃ fd, FunD K "_law_bag" "_law_bag" (defArgs s__law_bag) (defBody s__law_bag) (defScope s__law_bag) [] [] (He.ga K "_law_bag") fd
  g__law_bag : mg "_law_bag" = some (.ref (He.ga K "_law_bag"))
  f__law_take : ∃ fd, FunD K "_law_take" "_law_take" (defArgs s__law_take) (defBody s__law_take) (defScope s__law_take) [] [] (He.ga K "_law_take") fd
  g__law_take : mg "_law_take" = some (.ref (He.ga K "_law_take"))
  f__law_of : ∃ fd, FunD K "_law_of" "_law_of" (defArgs s__law_of) (defBody s__law_of) (defScope s__law_of) [] [] (He.ga K "_law_of") fd
  g__law_of : mg "_law_of" = some (.ref (He.ga K "_law_of"))
  f__law_bound : ∃ fd, FunD K "_law_bound" "_law_bound" (defArgs s__law_bound) (defBody s__law_bound) (defScope s__law_bound) [] [] (He.ga K "_law_bound") fd
  g__law_bound : mg "_law_bound" = some (.ref (He.ga K "_law_bound"))
  f__law_slice : ∃ fd, FunD K "_law_slice" "_law_slice" (defArgs s__law_slice) (defBody s__law_slice) (defScope s__law_slice) [] [] (He.ga K "_law_slice") fd
  g__law_slice : mg "_law_slice" = some (.ref (He.ga K "_law_slice"))
  f__law_chain : ∃ fd, FunD K "_law_chain" "_law_chain" (defArgs s__law_chain) (defBody s__law_chain) (defScope s__law_chain) [] [] (He.ga K "_law_chain") fd
  g__law_chain : mg "_law_chain" = some (.ref (He.ga K "_law_chain"))
  f__law_part : ∃ fd, FunD K "_law_part" "_law_part" (defArgs s__law_part) (defBody s__law_part) (defScope s__law_part) [] [] (He.ga K "_law_part") fd
  g__law_part : mg "_law_part" = some (.ref (He.ga K "_law_part"))
  f__law_shown : ∃ fd, FunD K "_law_shown" "_law_shown" (defArgs s__law_shown) (defBody s__law_shown) (defScope s__law_shown) [] [] (He.ga K "_law_shown") fd
  g__law_shown : mg "_law_shown" = some (.ref (He.ga K "_law_shown"))
  f__law_weights : ∃ fd, FunD K "_law_weights" "_law_weights" (defArgs s__law_weights) (defBody s__law_weights) (defScope s__law_weights) [] [] (He.ga K "_law_weights") fd
  g__law_weights : mg "_law_weights" = some (.ref (He.ga K "_law_weights"))
  f__law_did : ∃ fd, FunD K "_law_did" "_law_did" (defArgs s__law_did) (defBody s__law_did) (defScope s__law_did) [] [] (He.ga K "_law_did") fd
  g__law_did : mg "_law_did" = some (.ref (He.ga K "_law_did"))
  f__law_action : ∃ fd, FunD K "_law_action" "_law_action" (defArgs s__law_action) (defBody s__law_action) (defScope s__law_action) [] [] (He.ga K "_law_action") fd
  g__law_action : mg "_law_action" = some (.ref (He.ga K "_law_action"))
  f__law_good : ∃ fd, FunD K "_law_good" "_law_good" (defArgs s__law_good) (defBody s__law_good) (defScope s__law_good) [] [] (He.ga K "_law_good") fd
  g__law_good : mg "_law_good" = some (.ref (He.ga K "_law_good"))
  f__law_due : ∃ fd, FunD K "_law_due" "_law_due" (defArgs s__law_due) (defBody s__law_due) (defScope s__law_due) [] [] (He.ga K "_law_due") fd
  g__law_due : mg "_law_due" = some (.ref (He.ga K "_law_due"))
  f_law : ∃ fd, FunD K "law" "law" (defArgs s_law) (defBody s_law) (defScope s_law) [] [] (He.ga K "law") fd
  g_law : mg "law" = some (.ref (He.ga K "law"))
  c_BOUND : ∃ t, mg "BOUND" = some (.int 30 t)
  c_STEP : ∃ t, mg "STEP" = some (.int 3 t)
  c_FAR : ∃ t, mg "FAR" = some (.int 1000000000000000 t)
  c_MOST : ∃ t, mg "MOST" = some (.int 60 t)
  m_abs : mg "abs" = none
  m_bool : mg "bool" = none
  m_int : mg "int" = none
  m_isinstance : mg "isinstance" = none
  m_len : mg "len" = none
  m_max : mg "max" = none
  m_min : mg "min" = none
  m_range : mg "range" = none
  m_tuple : mg "tuple" = none
  m_zip : mg "zip" = none
  x_ChainError : ExcOk K mg "ChainError" (He.ga K "ChainError")
  x_InvalidSlice : ExcOk K mg "InvalidSlice" (He.ga K "InvalidSlice")
  x_InvalidLength : ExcOk K mg "InvalidLength" (He.ga K "InvalidLength")
  x_InvalidNumber : ExcOk K mg "InvalidNumber" (He.ga K "InvalidNumber")
  x_TooMany : ExcOk K mg "TooMany" (He.ga K "TooMany")
  x_NothingToUndo : ExcOk K mg "NothingToUndo" (He.ga K "NothingToUndo")
  g_View : mg "View" = some (.ref (He.ga K "View"))
  cl_View : Cls K (He.ga K "View")
  mk_View : Mk K (He.ga K "View") (He.ma K (He.ga K "View") "__init__")
  n_View_length : NoAttr K (He.ga K "View") "length"
  n_View_slices : NoAttr K (He.ga K "View") "slices"
  n_View_views : NoAttr K (He.ga K "View") "views"
  me_View___len__ : Meth K (He.ga K "View") "__len__" (He.ma K (He.ga K "View") "__len__")
  me_View___eq__ : Meth K (He.ga K "View") "__eq__" (He.ma K (He.ga K "View") "__eq__")
  me_View_slice : Meth K (He.ga K "View") "slice" (He.ma K (He.ga K "View") "slice")
  me_View_undo : Meth K (He.ga K "View") "undo" (He.ma K (He.ga K "View") "undo")
  me_View_shown : Meth K (He.ga K "View") "shown" (He.ma K (He.ga K "View") "shown")
  me_View_place : Meth K (He.ga K "View") "place" (He.ma K (He.ga K "View") "place")
  io_View : IsO K (He.ga K "View")
  e_InvalidNumber : ExcC K (He.ga K "InvalidNumber")
  e_InvalidSlice : ExcC K (He.ga K "InvalidSlice")
  e_NothingToUndo : ExcC K (He.ga K "NothingToUndo")
  k_InvalidNumber_InvalidNumber : PySem.W.kitOne K (.ref (He.ga K "InvalidNumber")) (.ref (He.ga K "InvalidNumber")) = some true
  k_InvalidNumber_InvalidSlice : PySem.W.kitOne K (.ref (He.ga K "InvalidNumber")) (.ref (He.ga K "InvalidSlice")) = some false
  k_InvalidNumber_NothingToUndo : PySem.W.kitOne K (.ref (He.ga K "InvalidNumber")) (.ref (He.ga K "NothingToUndo")) = some false
  k_InvalidSlice_InvalidNumber : PySem.W.kitOne K (.ref (He.ga K "InvalidSlice")) (.ref (He.ga K "InvalidNumber")) = some false
  k_InvalidSlice_InvalidSlice : PySem.W.kitOne K (.ref (He.ga K "InvalidSlice")) (.ref (He.ga K "InvalidSlice")) = some true
  k_InvalidSlice_NothingToUndo : PySem.W.kitOne K (.ref (He.ga K "InvalidSlice")) (.ref (He.ga K "NothingToUndo")) = some false
  k_NothingToUndo_InvalidNumber : PySem.W.kitOne K (.ref (He.ga K "NothingToUndo")) (.ref (He.ga K "InvalidNumber")) = some false
  k_NothingToUndo_InvalidSlice : PySem.W.kitOne K (.ref (He.ga K "NothingToUndo")) (.ref (He.ga K "InvalidSlice")) = some false
  k_NothingToUndo_NothingToUndo : PySem.W.kitOne K (.ref (He.ga K "NothingToUndo")) (.ref (He.ga K "NothingToUndo")) = some true
  m_InvalidNumber_ChainError : PySem.W.exmOne K (.ref (He.ga K "InvalidNumber")) (.ref (He.ga K "ChainError")) = some true
  m_InvalidSlice_ChainError : PySem.W.exmOne K (.ref (He.ga K "InvalidSlice")) (.ref (He.ga K "ChainError")) = some true
  m_NothingToUndo_ChainError : PySem.W.exmOne K (.ref (He.ga K "NothingToUndo")) (.ref (He.ga K "ChainError")) = some true
def fn : List He.DefD := ⟨("is_integer", none), "is_integer", "is_integer", defArgs s_is_integer, defBody s_is_integer, defScope s_is_integer, [], []⟩ :: ⟨("is_bound", none), "is_bound", "is_bound", defArgs s_is_bound, defBody s_is_bound, defScope s_is_bound, [], []⟩ :: ⟨("is_step", none), "is_step", "is_step", defArgs s_is_step, defBody s_is_step, defScope s_is_step, [], []⟩ :: ⟨("is_slice", none), "is_slice", "is_slice", defArgs s_is_slice, defBody s_is_slice, defScope s_is_slice, [], []⟩ :: ⟨("require_length", none), "require_length", "require_length", defArgs s_require_length, defBody s_require_length, defScope s_require_length, [], []⟩ :: ⟨("moved", none), "moved", "moved", defArgs s_moved, defBody s_moved, defScope s_moved, [], []⟩ :: ⟨("ends", none), "ends", "ends", defArgs s_ends, defBody s_ends, defScope s_ends, [], []⟩ :: ⟨("applied", none), "applied", "applied", defArgs s_applied, defBody s_applied, defScope s_applied, [], []⟩ :: ⟨("cleaned", none), "cleaned", "cleaned", defArgs s_cleaned, defBody s_cleaned, defScope s_cleaned, [], []⟩ :: ⟨("View", some "__init__"), "__init__", "View.__init__", defArgs s_View___init__, defBody s_View___init__, defScope s_View___init__, [], []⟩ :: ⟨("View", some "__len__"), "__len__", "View.__len__", defArgs s_View___len__, defBody s_View___len__, defScope s_View___len__, [], []⟩ :: ⟨("View", some "__eq__"), "__eq__", "View.__eq__", defArgs s_View___eq__, defBody s_View___eq__, defScope s_View___eq__, [], []⟩ :: ⟨("View", some "slice"), "slice", "View.slice", defArgs s_View_slice, defBody s_View_slice, defScope s_View_slice, [], []⟩ :: ⟨("View", some "undo"), "undo", "View.undo", defArgs s_View_undo, defBody s_View_undo, defScope s_View_undo, [], []⟩ :: ⟨("View", some "shown"), "shown", "View.shown", defArgs s_View_shown, defBody s_View_shown, defScope s_View_shown, [], []⟩ :: ⟨("View", some "place"), "place", "View.place", defArgs s_View_place, defBody s_View_place, defScope s_View_place, [], []⟩ :: ⟨("_law_bag", none), "_law_bag", "_law_bag", defArgs s__law_bag, defBody s__law_bag, defScope s__law_bag, [], []⟩ :: ⟨("_law_take", none), "_law_take", "_law_take", defArgs s__law_take, defBody s__law_take, defScope s__law_take, [], []⟩ :: ⟨("_law_of", none), "_law_of", "_law_of", defArgs s__law_of, defBody s__law_of, defScope s__law_of, [], []⟩ :: ⟨("_law_bound", none), "_law_bound", "_law_bound", defArgs s__law_bound, defBody s__law_bound, defScope s__law_bound, [], []⟩ :: ⟨("_law_slice", none), "_law_slice", "_law_slice", defArgs s__law_slice, defBody s__law_slice, defScope s__law_slice, [], []⟩ :: ⟨("_law_chain", none), "_law_chain", "_law_chain", defArgs s__law_chain, defBody s__law_chain, defScope s__law_chain, [], []⟩ :: ⟨("_law_part", none), "_law_part", "_law_part", defArgs s__law_part, defBody s__law_part, defScope s__law_part, [], []⟩ :: ⟨("_law_shown", none), "_law_shown", "_law_shown", defArgs s__law_shown, defBody s__law_shown, defScope s__law_shown, [], []⟩ :: ⟨("_law_weights", none), "_law_weights", "_law_weights", defArgs s__law_weights, defBody s__law_weights, defScope s__law_weights, [], []⟩ :: ⟨("_law_did", none), "_law_did", "_law_did", defArgs s__law_did, defBody s__law_did, defScope s__law_did, [], []⟩ :: ⟨("_law_action", none), "_law_action", "_law_action", defArgs s__law_action, defBody s__law_action, defScope s__law_action, [], []⟩ :: ⟨("_law_good", none), "_law_good", "_law_good", defArgs s__law_good, defBody s__law_good, defScope s__law_good, [], []⟩ :: ⟨("_law_due", none), "_law_due", "_law_due", defArgs s__law_due, defBody s__law_due, defScope s__law_due, [], []⟩ :: ⟨("law", none), "law", "law", defArgs s_law, defBody s_law, defScope s_law, [], []⟩ :: []
def fa : List He.Fa := .glo "is_integer" :: .glo "is_bound" :: .glo "is_step" :: .glo "is_slice" :: .glo "require_length" :: .glo "moved" :: .glo "ends" :: .glo "applied" :: .glo "cleaned" :: .glo "_law_bag" :: .glo "_law_take" :: .glo "_law_of" :: .glo "_law_bound" :: .glo "_law_slice" :: .glo "_law_chain" :: .glo "_law_part" :: .glo "_law_shown" :: .glo "_law_weights" :: .glo "_law_did" :: .glo "_law_action" :: .glo "_law_good" :: .glo "_law_due" :: .glo "law" :: .int "BOUND" 30 :: .int "STEP" 3 :: .int "FAR" 1000000000000000 :: .int "MOST" 60 :: .free "abs" :: .free "bool" :: .free "int" :: .free "isinstance" :: .free "len" :: .free "max" :: .free "min" :: .free "range" :: .free "tuple" :: .free "zip" :: .glo "ChainError" :: .exc "ChainError" :: .glo "InvalidSlice" :: .exc "InvalidSlice" :: .glo "InvalidLength" :: .exc "InvalidLength" :: .glo "InvalidNumber" :: .exc "InvalidNumber" :: .glo "TooMany" :: .exc "TooMany" :: .glo "NothingToUndo" :: .exc "NothingToUndo" :: .glo "View" :: .cls "View" :: .mkr "View" :: .noat "View" "length" :: .noat "View" "slices" :: .noat "View" "views" :: .meth "View" "__len__" :: .meth "View" "__eq__" :: .meth "View" "slice" :: .meth "View" "undo" :: .meth "View" "shown" :: .meth "View" "place" :: []
def ex (K : PySem.W.Frag) : Bool := (isoB K (He.ga K "View")) && ((excB K (He.ga K "InvalidNumber")) && ((excB K (He.ga K "InvalidSlice")) && ((excB K (He.ga K "NothingToUndo")) && ((kitB2 K "InvalidNumber" "InvalidNumber" true) && ((kitB2 K "InvalidNumber" "InvalidSlice" false) && ((kitB2 K "InvalidNumber" "NothingToUndo" false) && ((kitB2 K "InvalidSlice" "InvalidNumber" false) && ((kitB2 K "InvalidSlice" "InvalidSlice" true) && ((kitB2 K "InvalidSlice" "NothingToUndo" false) && ((kitB2 K "NothingToUndo" "InvalidNumber" false) && ((kitB2 K "NothingToUndo" "InvalidSlice" false) && ((kitB2 K "NothingToUndo" "NothingToUndo" true) && ((exmB K "InvalidNumber" "ChainError" true) && ((exmB K "InvalidSlice" "ChainError" true) && ((exmB K "NothingToUndo" "ChainError" true))))))))))))))))
theorem env_of {K : PySem.W.Frag} {h : Heap} {mg : Str → Option Value} (X : K.In h) (G : h.Ns mainGlobals mg) (c : He.SaysD fa fn K) (cx : ex K = true) : Tx K mg where
  f_is_integer := c.def_ 0 rfl
  g_is_integer := He.glo_ok X G (c.fact 0 rfl)
  f_is_bound := c.def_ 1 rfl
  g_is_bound := He.glo_ok X G (c.fact 1 rfl)
  f_is_step := c.def_ 2 rfl
  g_is_step := He.glo_ok X G (c.fact 2 rfl)
  f_is_slice := c.def_ 3 rfl
  g_is_slice := He.glo_ok X G (c.fact 3 rfl)
  f_require_length := c.def_ 4 rfl
  g_require_length := He.glo_ok X G (c.fact 4 rfl)
  f_moved := c.def_ 5 rfl
  g_moved := He.glo_ok X G (c.fact 5 rfl)
  f_ends := c.def_ 6 rfl
  g_ends := He.glo_ok X G (c.fact 6 rfl)
  f_applied := c.def_ 7 rfl
  g_applied := He.glo_ok X G (c.fact 7 rfl)
  f_cleaned := c.def_ 8 rfl
  g_cleaned := He.glo_ok X G (c.fact 8 rfl)
  f_View___init__ := c.def_ 9 rfl
  f_View___len__ := c.def_ 10 rfl
  f_View___eq__ := c.def_ 11 rfl
  f_View_slice := c.def_ 12 rfl
  f_View_undo := c.def_ 13 rfl
  f_View_shown := c.def_ 14 rfl
  f_View_place := c.def_ 15 rfl
  f__law_bag := c.def_ 16 rfl
  g__law_bag := He.glo_ok X G (c.fact 9 rfl)
  f__law_take := c.def_ 17 rfl
  g__law_take := He.glo_ok X G (c.fact 10 rfl)
  f__law_of := c.def_ 18 rfl
  g__law_of := He.glo_ok X G (c.fact 11 rfl)
  f__law_bound := c.def_ 19 rfl
  g__law_bound := He.glo_ok X G (c.fact 12 rfl)
  f__law_slice := c.def_ 20 rfl
  g__law_slice := He.glo_ok X G (c.fact 13 rfl)
  f__law_chain := c.def_ 21 rfl
  g__law_chain := He.glo_ok X G (c.fact 14 rfl)
  f__law_part := c.def_ 22 rfl
  g__law_part := He.glo_ok X G (c.fact 15 rfl)
  f__law_shown := c.def_ 23 rfl
  g__law_shown := He.glo_ok X G (c.fact 16 rfl)
  f__law_weights := c.def_ 24 rfl
  g__law_weights := He.glo_ok X G (c.fact 17 rfl)
  f__law_did := c.def_ 25 rfl
  g__law_did := He.glo_ok X G (c.fact 18 rfl)
  f__law_action := c.def_ 26 rfl
  g__law_action := He.glo_ok X G (c.fact 19 rfl)
  f__law_good := c.def_ 27 rfl
  g__law_good := He.glo_ok X G (c.fact 20 rfl)
  f__law_due := c.def_ 28 rfl
  g__law_due := He.glo_ok X G (c.fact 21 rfl)
  f_law := c.def_ 29 rfl
  g_law := He.glo_ok X G (c.fact 22 rfl)
  c_BOUND := He.int_ok X G (c.fact 23 rfl)
  c_STEP := He.int_ok X G (c.fact 24 rfl)
  c_FAR := He.int_ok X G (c.fact 25 rfl)
  c_MOST := He.int_ok X G (c.fact 26 rfl)
  m_abs := He.free_ok X G (c.fact 27 rfl)
  m_bool := He.free_ok X G (c.fact 28 rfl)
  m_int := He.free_ok X G (c.fact 29 rfl)
  m_isinstance := He.free_ok X G (c.fact 30 rfl)
  m_len := He.free_ok X G (c.fact 31 rfl)
  m_max := He.free_ok X G (c.fact 32 rfl)
  m_min := He.free_ok X G (c.fact 33 rfl)
  m_range := He.free_ok X G (c.fact 34 rfl)
  m_tuple := He.free_ok X G (c.fact 35 rfl)
  m_zip := He.free_ok X G (c.fact 36 rfl)
  x_ChainError := by
    have z := He.exc_ok (c.fact 38 (f := .exc "ChainError") rfl)
    exact ⟨He.glo_ok X G (c.fact 37 (f := .glo "ChainError") rfl), z.1, z.2.1, z.2.2.1, z.2.2.2⟩
  x_InvalidSlice := by
    have z := He.exc_ok (c.fact 40 (f := .exc "InvalidSlice") rfl)
    exact ⟨He.glo_ok X G (c.fact 39 (f := .glo "InvalidSlice") rfl), z.1, z.2.1, z.2.2.1, z.2.2.2⟩
  x_InvalidLength := by
    have z := He.exc_ok (c.fact 42 (f := .exc "InvalidLength") rfl)
    exact ⟨He.glo_ok X G (c.fact 41 (f := .glo "InvalidLength") rfl), z.1, z.2.1, z.2.2.1, z.2.2.2⟩
  x_InvalidNumber := by
    have z := He.exc_ok (c.fact 44 (f := .exc "InvalidNumber") rfl)
    exact ⟨He.glo_ok X G (c.fact 43 (f := .glo "InvalidNumber") rfl), z.1, z.2.1, z.2.2.1, z.2.2.2⟩
  x_TooMany := by
    have z := He.exc_ok (c.fact 46 (f := .exc "TooMany") rfl)
    exact ⟨He.glo_ok X G (c.fact 45 (f := .glo "TooMany") rfl), z.1, z.2.1, z.2.2.1, z.2.2.2⟩
  x_NothingToUndo := by
    have z := He.exc_ok (c.fact 48 (f := .exc "NothingToUndo") rfl)
    exact ⟨He.glo_ok X G (c.fact 47 (f := .glo "NothingToUndo") rfl), z.1, z.2.1, z.2.2.1, z.2.2.2⟩
  g_View := He.glo_ok X G (c.fact 49 rfl)
  cl_View := He.cls_ok (c.fact 50 rfl)
  mk_View := He.mkr_ok (c.fact 51 rfl)
  n_View_length := He.noat_ok (c.fact 52 rfl)
  n_View_slices := He.noat_ok (c.fact 53 rfl)
  n_View_views := He.noat_ok (c.fact 54 rfl)
  me_View___len__ := He.meth_ok (c.fact 55 rfl)
  me_View___eq__ := He.meth_ok (c.fact 56 rfl)
  me_View_slice := He.meth_ok (c.fact 57 rfl)
  me_View_undo := He.meth_ok (c.fact 58 rfl)
  me_View_shown := He.meth_ok (c.fact 59 rfl)
  me_View_place := He.meth_ok (c.fact 60 rfl)
  io_View := isoB_ok (He.ba cx).1
  e_InvalidNumber := excB_ok (He.ba (He.ba cx).2).1
  e_InvalidSlice := excB_ok (He.ba (He.ba (He.ba cx).2).2).1
  e_NothingToUndo := excB_ok (He.ba (He.ba (He.ba (He.ba cx).2).2).2).1
  k_InvalidNumber_InvalidNumber := of_decide_eq_true (He.ba (He.ba (He.ba (He.ba (He.ba cx).2).2).2).2).1
  k_InvalidNumber_InvalidSlice := of_decide_eq_true (He.ba (He.ba (He.ba (He.ba (He.ba (He.ba cx).2).2).2).2).2).1
  k_InvalidNumber_NothingToUndo := of_decide_eq_true (He.ba (He.ba (He.ba (He.ba (He.ba (He.ba (He.ba cx).2).2).2).2).2).2).1
  k_InvalidSlice_InvalidNumber := of_decide_eq_true (He.ba (He.ba (He.ba (He.ba (He.ba (He.ba (He.ba (He.ba cx).2).2).2).2).2).2).2).1
  k_InvalidSlice_InvalidSlice := of_decide_eq_true (He.ba (He.ba (He.ba (He.ba (He.ba (He.ba (He.ba (He.ba (He.ba cx).2).2).2).2).2).2).2).2).1
  k_InvalidSlice_NothingToUndo := of_decide_eq_true (He.ba (He.ba (He.ba (He.ba (He.ba (He.ba (He.ba (He.ba (He.ba (He.ba cx).2).2).2).2).2).2).2).2).2).1
  k_NothingToUndo_InvalidNumber := of_decide_eq_true (He.ba (He.ba (He.ba (He.ba (He.ba (He.ba (He.ba (He.ba (He.ba (He.ba (He.ba cx).2).2).2).2).2).2).2).2).2).2).1
  k_NothingToUndo_InvalidSlice := of_decide_eq_true (He.ba (He.ba (He.ba (He.ba (He.ba (He.ba (He.ba (He.ba (He.ba (He.ba (He.ba (He.ba cx).2).2).2).2).2).2).2).2).2).2).2).1
  k_NothingToUndo_NothingToUndo := of_decide_eq_true (He.ba (He.ba (He.ba (He.ba (He.ba (He.ba (He.ba (He.ba (He.ba (He.ba (He.ba (He.ba (He.ba cx).2).2).2).2).2).2).2).2).2).2).2).2).1
  m_InvalidNumber_ChainError := of_decide_eq_true (He.ba (He.ba (He.ba (He.ba (He.ba (He.ba (He.ba (He.ba (He.ba (He.ba (He.ba (He.ba (He.ba (He.ba cx).2).2).2).2).2).2).2).2).2).2).2).2).2).1
  m_InvalidSlice_ChainError := of_decide_eq_true (He.ba (He.ba (He.ba (He.ba (He.ba (He.ba (He.ba (He.ba (He.ba (He.ba (He.ba (He.ba (He.ba (He.ba (He.ba cx).2).2).2).2).2).2).2).2).2).2).2).2).2).2).1
  m_NothingToUndo_ChainError := of_decide_eq_true (He.ba (He.ba (He.ba (He.ba (He.ba (He.ba (He.ba (He.ba (He.ba (He.ba (He.ba (He.ba (He.ba (He.ba (He.ba cx).2).2).2).2).2).2).2).2).2).2).2).2).2).2).2
section
variable {P : Program} {w : World} {K : PySem.W.Frag} {mg : Str → Option Value} {base : Heap}
theorem ok_is_integer (T : Tx K mg) : Has P w K mg base 1 "is_integer" ["value", "low", "high"] sp_is_integer := by
  obtain ⟨fd, F⟩ := T.f_is_integer
  have sc := sc_is_integer
  refine Has.mk (N := N_is_integer) F sc T.g_is_integer (FunD.bindsN F fun _ _ _ _ _ _ us hl => match us, hl with | [_, _, _], _ => rfl) psp.mono (psp.len fun _ => rfl) pure_is_integer (fun cdv A outer s H E hr => ?_)
  have hu := hr.units
  have tk : L2N.Takes (cxOf (L2N.CX P w) P w K mg base N_is_integer "is_integer" (defScope s_is_integer) (He.ga K "is_integer") cdv A outer s H E) (fun cls d _ H => E cls d H) := L2N.takes_of rfl rfl rfl rfl
  exact (b_one (s_ret (e_and (e_isi (ev 0) T.m_isinstance T.m_int boot_int) (e_and (e_not (e_isi (ev 0) T.m_isinstance T.m_bool boot_bool)) (e_one (e_chain o_le o_le (ev 1) (ev 0) (ev 2)))))))
theorem ok_moved (T : Tx K mg) : Has P w K mg base 1 "moved" ["bound", "count", "low", "high"] sp_moved := by
  obtain ⟨fd, F⟩ := T.f_moved
  have sc := sc_moved
  refine Has.mk (N := N_moved) F sc T.g_moved (FunD.bindsN F fun _ _ _ _ _ _ us hl => match us, hl with | [_, _, _, _], _ => rfl) psp.mono (psp.len fun _ => rfl) pure_moved (fun cdv A outer s H E hr => ?_)
  have hu := hr.units
  have tk : L2N.Takes (cxOf (L2N.CX P w) P w K mg base N_moved "moved" (defScope s_moved) (He.ga K "moved") cdv A outer s H E) (fun cls d _ H => E cls d H) := L2N.takes_of rfl rfl rfl rfl
  exact (b_cons (s_set 4 sc.nd (e_if (t_cmp o_lt (ev 0) e_int) (e_op o_add (ev 0) (ev 1)) (ev 0)))
      (b_one (s_ret (e_callB (c_max2 rfl) T.m_max boot_max (a_cons (ev 2) (a_cons (e_callB (c_min2 rfl) T.m_min boot_min (a_cons (ev 3) (a_cons (ev 4) a_nil))) a_nil))))))
theorem ok_cleaned (T : Tx K mg) : Has P w K mg base 1 "cleaned" ["shown"] sp_cleaned := by
  obtain ⟨fd, F⟩ := T.f_cleaned
  have sc := sc_cleaned
  refine Has.mk (N := N_cleaned) F sc T.g_cleaned (FunD.bindsN F fun _ _ _ _ _ _ us hl => match us, hl with | [_], _ => rfl) psp.mono (psp.len fun _ => rfl) pure_cleaned (fun cdv A outer s H E hr => ?_)
  have hu := hr.units
  have tk : L2N.Takes (cxOf (L2N.CX P w) P w K mg base N_cleaned "cleaned" (defScope s_cleaned) (He.ga K "cleaned") cdv A outer s H E) (fun cls d _ H => E cls d H) := L2N.takes_of rfl rfl rfl rfl
  exact (b_cons (s_asg (ev 0) (g_tup rfl (gs_cons (g_name 1 sc.nd) (gs_cons (g_name 2 sc.nd) (gs_cons (g_name 3 sc.nd) gs_nil)))))
      (b_one (s_ret (e_tup (a_cons (e_if (t_cmp o_gt (ev 3) e_int) (ev 1) e_non) (a_cons (e_if (t_cmp o_gt (ev 3) e_int) (ev 2) e_non) (a_cons (ev 3) a_nil)))))))
theorem ok_View___len__ (T : Tx K mg) : HasA P w K mg base 1 (He.ma K (He.ga K "View") "__len__") (sp_View_len (He.ga K "View")) := by
  obtain ⟨fd, F⟩ := T.f_View___len__
  have sc := sc_View___len__
  refine HasA.mk (N := N_View___len__) F sc (FunD.bindsN F fun _ _ _ _ _ _ us hl => match us, hl with | [_], _ => rfl) View_len_mono View_len_lenD (pure_View_len (He.ga K "View")) (fun cdv A outer s H E hr => ?_)
  have hu := hr.units
  have tk : L2N.Takes (cxOf (L2N.CX P w) P w K mg base N_View___len__ "View.__len__" (defScope s_View___len__) (He.ma K (He.ga K "View") "__len__") cdv A outer s H E) (fun cls d _ H => E cls d H) := L2N.takes_of rfl rfl rfl rfl
  exact (b_one (s_ret (e_callB c_len T.m_len boot_len (a_cons (e_fld T.cl_View T.n_View_slices (ev 0)) a_nil))))
theorem ok_View_undo (T : Tx K mg) : HasA P w K mg base 1 (He.ma K (He.ga K "View") "undo") (sp_View_undo (He.ga K "View") (He.ga K "NothingToUndo")) := by
  obtain ⟨fd, F⟩ := T.f_View_undo
  have sc := sc_View_undo
  refine HasA.mk (N := N_View_undo) F sc (FunD.bindsN F fun _ _ _ _ _ _ us hl => match us, hl with | [_], _ => rfl) View_undo_mono View_undo_lenD (pure_View_undo (He.ga K "NothingToUndo") (He.ga K "View")) (fun cdv A outer s H E hr => ?_)
  have hu := hr.units
  have tk : L2N.Takes (cxOf (L2N.CX P w) P w K mg base N_View_undo "View.undo" (defScope s_View_undo) (He.ma K (He.ga K "View") "undo") cdv A outer s H E) (fun cls d _ H => E cls d H) := L2N.takes_of rfl rfl rfl rfl
  exact (b_cons (s_if (t_not (t_tru (e_fld T.cl_View T.n_View_slices (ev 0)))) (b_one (s_raise rfl tk T.x_NothingToUndo)) b_nil)
      (b_cons (s_expr (e_mt0 PySem.F.slot_list_pop PySem.F.type_list_pop m_pop (e_fld T.cl_View T.n_View_slices (ev 0))))
      (b_one (s_expr (e_mt0 PySem.F.slot_list_pop PySem.F.type_list_pop m_pop (e_fld T.cl_View T.n_View_views (ev 0)))))))
theorem ok__law_bag (T : Tx K mg) : Has P w K mg base 1 "_law_bag" ["_law_script", "_law_k"] sp__law_bag := by
  obtain ⟨fd, F⟩ := T.f__law_bag
  have sc := sc__law_bag
  refine Has.mk (N := N__law_bag) F sc T.g__law_bag (FunD.bindsN F fun _ _ _ _ _ _ us hl => match us, hl with | [_, _], _ => rfl) bag_mono bag_len pure__law_bag (fun cdv A outer s H E hr => ?_)
  have hu := hr.units
  have tk : L2N.Takes (cxOf (L2N.CX P w) P w K mg base N__law_bag "_law_bag" (defScope s__law_bag) (He.ga K "_law_bag") cdv A outer s H E) (fun cls d _ H => E cls d H) := L2N.takes_of rfl rfl rfl rfl
  exact (b_cons (s_set 2 sc.nd e_int)
      (b_cons (s_if (t_cmp o_lt (ev 1) (e_callB c_len T.m_len boot_len (a_cons (ev 0) a_nil))) (b_one (s_set 2 sc.nd (e_op o_mod (e_ix i_seq (ev 0) (ev 1)) (e_op o_pow e_int e_int)))) b_nil)
      (b_cons (s_set 3 sc.nd (e_op o_add e_int (e_op o_mod (e_op o_add (e_op o_add (e_op o_add (e_op o_mul (e_op o_mod (ev 2) e_int) e_int) (e_op o_mul (e_op o_mul e_int (ev 1)) (ev 1))) (e_op o_mul e_int (ev 1))) e_int) e_int)))
      (b_cons (s_if (t_cmp o_lt (ev 2) (e_op o_pow e_int e_int)) (b_one (s_ret (e_lst (a_cons e_int (a_cons (ev 3) a_nil))))) b_nil)
      (b_one (s_ret (e_lst (a_cons (ev 2) (a_cons (ev 3) a_nil)))))))))
theorem ok__law_take (T : Tx K mg) : Has P w K mg base 1 "_law_take" ["_law_bag_here", "_law_count"] sp__law_take := by
  obtain ⟨fd, F⟩ := T.f__law_take
  have sc := sc__law_take
  refine Has.mk (N := N__law_take) F sc T.g__law_take (FunD.bindsN F fun _ _ _ _ _ _ us hl => match us, hl with | [_, _], _ => rfl) bsp.mono (bsp.len fun _ => rfl) pure__law_take (fun cdv A outer s H E hr => ?_)
  have hu := hr.units
  have tk : L2N.Takes (cxOf (L2N.CX P w) P w K mg base N__law_take "_law_take" (defScope s__law_take) (He.ga K "_law_take") cdv A outer s H E) (fun cls d _ H => E cls d H) := L2N.takes_of rfl rfl rfl rfl
  exact (b_cons (s_if (t_cmp o_gt (e_ix i_seq (ev 0) e_int) e_int) (b_cons (s_set 2 sc.nd (e_op o_mod (e_ix i_seq (ev 0) e_int) (ev 1)))
      (b_cons (s_store (e_op o_fdiv (e_ix i_seq (ev 0) e_int) (ev 1)) (ev 0) e_int)
      (b_one (s_ret (ev 2))))) b_nil)
      (b_cons (s_store (e_op o_mod (e_op o_mul (e_ix i_seq (ev 0) e_int) e_int) e_int) (ev 0) e_int)
      (b_one (s_ret (e_op o_mod (e_op o_fdiv (e_op o_mod (e_op o_mul (e_op o_fdiv (e_ix i_seq (ev 0) e_int) e_int) (e_op o_add (e_op o_mod (e_ix i_seq (ev 0) e_int) e_int) e_int)) e_int) e_int) (ev 1))))))
theorem ok__law_part (T : Tx K mg) : Has P w K mg base 1 "_law_part" ["_law_one", "_law_c"] sp__law_part := by
  obtain ⟨fd, F⟩ := T.f__law_part
  have sc := sc__law_part
  refine Has.mk (N := N__law_part) F sc T.g__law_part (FunD.bindsN F fun _ _ _ _ _ _ us hl => match us, hl with | [_, _], _ => rfl) psp.mono (psp.len fun _ => rfl) pure__law_part (fun cdv A outer s H E hr => ?_)
  have hu := hr.units
  have tk : L2N.Takes (cxOf (L2N.CX P w) P w K mg base N__law_part "_law_part" (defScope s__law_part) (He.ga K "_law_part") cdv A outer s H E) (fun cls d _ H => E cls d H) := L2N.takes_of rfl rfl rfl rfl
  exact (b_cons (s_asg (ev 0) (g_tup rfl (gs_cons (g_name 2 sc.nd) (gs_cons (g_name 3 sc.nd) (gs_cons (g_name 4 sc.nd) gs_nil)))))
      (b_cons (s_if (t_cmp o_gt (ev 4) e_int) (b_cons (s_set 5 sc.nd (e_if (t_cmp o_isN (ev 2) e_non) e_int (e_if (t_cmp o_lt (ev 2) e_int) (e_callB (c_max2 rfl) T.m_max boot_max (a_cons e_int (a_cons (e_op o_add (ev 2) (ev 1)) a_nil))) (e_callB (c_min2 rfl) T.m_min boot_min (a_cons (ev 2) (a_cons (ev 1) a_nil))))))
      (b_cons (s_set 6 sc.nd (e_if (t_cmp o_isN (ev 3) e_non) (ev 1) (e_if (t_cmp o_lt (ev 3) e_int) (e_callB (c_max2 rfl) T.m_max boot_max (a_cons e_int (a_cons (e_op o_add (ev 3) (ev 1)) a_nil))) (e_callB (c_min2 rfl) T.m_min boot_min (a_cons (ev 3) (a_cons (ev 1) a_nil))))))
      (b_one (s_ret (e_tup (a_cons (ev 5) (a_cons (e_op o_fdiv (e_op o_sub (e_op o_add (e_callB (c_max2 rfl) T.m_max boot_max (a_cons e_int (a_cons (e_op o_sub (ev 6) (ev 5)) a_nil))) (ev 4)) e_int) (ev 4)) a_nil))))))) b_nil)
      (b_cons (s_set 5 sc.nd (e_if (t_cmp o_isN (ev 2) e_non) (e_op o_sub (ev 1) e_int) (e_if (t_cmp o_lt (ev 2) e_int) (e_callB (c_max2 rfl) T.m_max boot_max (a_cons (e_un u_neg e_int) (a_cons (e_op o_add (ev 2) (ev 1)) a_nil))) (e_callB (c_min2 rfl) T.m_min boot_min (a_cons (ev 2) (a_cons (e_op o_sub (ev 1) e_int) a_nil))))))
      (b_cons (s_set 6 sc.nd (e_if (t_cmp o_isN (ev 3) e_non) (e_un u_neg e_int) (e_if (t_cmp o_lt (ev 3) e_int) (e_callB (c_max2 rfl) T.m_max boot_max (a_cons (e_un u_neg e_int) (a_cons (e_op o_add (ev 3) (ev 1)) a_nil))) (e_callB (c_min2 rfl) T.m_min boot_min (a_cons (ev 3) (a_cons (e_op o_sub (ev 1) e_int) a_nil))))))
      (b_one (s_ret (e_tup (a_cons (ev 5) (a_cons (e_op o_fdiv (e_op o_sub (e_op o_add (e_callB (c_max2 rfl) T.m_max boot_max (a_cons e_int (a_cons (e_op o_sub (ev 5) (ev 6)) a_nil))) (e_callB c_abs T.m_abs boot_abs (a_cons (ev 4) a_nil))) e_int) (e_callB c_abs T.m_abs boot_abs (a_cons (ev 4) a_nil))) a_nil)))))))))
theorem ok__law_good (T : Tx K mg) : Has P w K mg base 1 "_law_good" ["_law_one"] sp__law_good := by
  obtain ⟨fd, F⟩ := T.f__law_good
  have sc := sc__law_good
  refine Has.mk (N := N__law_good) F sc T.g__law_good (FunD.bindsN F fun _ _ _ _ _ _ us hl => match us, hl with | [_], _ => rfl) psp.mono (psp.len fun _ => rfl) pure__law_good (fun cdv A outer s H E hr => ?_)
  have hu := hr.units
  have tk : L2N.Takes (cxOf (L2N.CX P w) P w K mg base N__law_good "_law_good" (defScope s__law_good) (He.ga K "_law_good") cdv A outer s H E) (fun cls d _ H => E cls d H) := L2N.takes_of rfl rfl rfl rfl
  exact (b_cons (s_for (passes_of rfl) rfl (j_tup (e_slice s_tup (ev 0) p_none (p_some e_int))) (g_name 1 sc.nd) (b_one (s_if (t_cmp o_notN (ev 1) e_non) (b_one (s_if ((w_or (t_not (t_val (e_isi (ev 1) T.m_isinstance T.m_int boot_int))) (w_or (t_val (e_isi (ev 1) T.m_isinstance T.m_bool boot_bool)) (w_or1 (t_not (t_chain o_le o_le (e_un u_neg e_int) (ev 1) e_int)))))).t (b_one (s_ret e_bl)) b_nil)) b_nil)))
      (b_one (s_ret (e_and (e_isi (e_ix i_seq (ev 0) e_int) T.m_isinstance T.m_int boot_int) (e_one (e_cmp o_in (e_ix i_seq (ev 0) e_int) (e_lst (a_cons e_int (a_cons e_int (a_cons e_int (a_cons (e_un u_neg e_int) (a_cons (e_un u_neg e_int) (a_cons (e_un u_neg e_int) a_nil)))))))))))))
theorem ok_is_bound (T : Tx K mg) : Has P w K mg base 2 "is_bound" ["value"] sp_is_bound := by
  obtain ⟨fd, F⟩ := T.f_is_bound
  have h_is_integer : Has P w K mg base 1 "is_integer" ["value", "low", "high"] sp_is_integer := ok_is_integer T
  have sc := sc_is_bound
  refine Has.mk (N := N_is_bound) F sc T.g_is_bound (FunD.bindsN F fun _ _ _ _ _ _ us hl => match us, hl with | [_], _ => rfl) psp.mono (psp.len fun _ => rfl) pure_is_bound (fun cdv A outer s H E hr => ?_)
  have hu := hr.units
  have tk : L2N.Takes (cxOf (L2N.CX P w) P w K mg base N_is_bound "is_bound" (defScope s_is_bound) (He.ga K "is_bound") cdv A outer s H E) (fun cls d _ H => E cls d H) := L2N.takes_of rfl rfl rfl rfl
  exact (b_one (s_ret (e_or (e_cmp o_isN (ev 0) e_non) (e_one (e_call h_is_integer (hr.mono (by decide)) tk (a_cons (ev 0) (a_cons (e_op o_sub e_int (e_globI T.c_BOUND)) (a_cons (e_globI T.c_BOUND) a_nil))))))))
theorem ok_is_step (T : Tx K mg) : Has P w K mg base 2 "is_step" ["value"] sp_is_step := by
  obtain ⟨fd, F⟩ := T.f_is_step
  have h_is_integer : Has P w K mg base 1 "is_integer" ["value", "low", "high"] sp_is_integer := ok_is_integer T
  have sc := sc_is_step
  refine Has.mk (N := N_is_step) F sc T.g_is_step (FunD.bindsN F fun _ _ _ _ _ _ us hl => match us, hl with | [_], _ => rfl) psp.mono (psp.len fun _ => rfl) pure_is_step (fun cdv A outer s H E hr => ?_)
  have hu := hr.units
  have tk : L2N.Takes (cxOf (L2N.CX P w) P w K mg base N_is_step "is_step" (defScope s_is_step) (He.ga K "is_step") cdv A outer s H E) (fun cls d _ H => E cls d H) := L2N.takes_of rfl rfl rfl rfl
  exact (b_one (s_ret (e_and (e_call h_is_integer (hr.mono (by decide)) tk (a_cons (ev 0) (a_cons (e_op o_sub e_int (e_globI T.c_STEP)) (a_cons (e_globI T.c_STEP) a_nil)))) (e_one (e_cmp o_ne (ev 0) e_int)))))
theorem ok_require_length (T : Tx K mg) : Has P w K mg base 2 "require_length" ["length", "most"] sp_require_length := by
  obtain ⟨fd, F⟩ := T.f_require_length
  have h_is_integer : Has P w K mg base 1 "is_integer" ["value", "low", "high"] sp_is_integer := ok_is_integer T
  have sc := sc_require_length
  refine Has.mk (N := N_require_length) F sc T.g_require_length (FunD.bindsN F fun _ _ _ _ _ _ us hl => match us, hl with | [_, _], _ => rfl) psp.mono (psp.len fun _ => rfl) (pure_require_length (He.ga K "InvalidLength")) (fun cdv A outer s H E hr => ?_)
  have hu := hr.units
  have tk : L2N.Takes (cxOf (L2N.CX P w) P w K mg base N_require_length "require_length" (defScope s_require_length) (He.ga K "require_length") cdv A outer s H E) (fun cls d _ H => E cls d H) := L2N.takes_of rfl rfl rfl rfl
  exact (b_one (s_if (t_not (t_val (e_call h_is_integer (hr.mono (by decide)) tk (a_cons (ev 0) (a_cons e_int (a_cons (ev 1) a_nil)))))) (b_one (s_raise rfl tk T.x_InvalidLength)) b_nil))
theorem ok_ends (T : Tx K mg) : Has P w K mg base 2 "ends" ["one", "count"] sp_ends := by
  obtain ⟨fd, F⟩ := T.f_ends
  have h_moved : Has P w K mg base 1 "moved" ["bound", "count", "low", "high"] sp_moved := ok_moved T
  have sc := sc_ends
  refine Has.mk (N := N_ends) F sc T.g_ends (FunD.bindsN F fun _ _ _ _ _ _ us hl => match us, hl with | [_, _], _ => rfl) psp.mono (psp.len fun _ => rfl) pure_ends (fun cdv A outer s H E hr => ?_)
  have hu := hr.units
  have tk : L2N.Takes (cxOf (L2N.CX P w) P w K mg base N_ends "ends" (defScope s_ends) (He.ga K "ends") cdv A outer s H E) (fun cls d _ H => E cls d H) := L2N.takes_of rfl rfl rfl rfl
  exact (b_cons (s_asg (ev 0) (g_tup rfl (gs_cons (g_name 2 sc.nd) (gs_cons (g_name 3 sc.nd) (gs_cons (g_name 4 sc.nd) gs_nil)))))
      (b_cons (s_if (t_cmp o_gt (ev 4) e_int) (b_cons (s_set 5 sc.nd (e_if (t_cmp o_isN (ev 2) e_non) e_int (e_call h_moved (hr.mono (by decide)) tk (a_cons (ev 2) (a_cons (ev 1) (a_cons e_int (a_cons (ev 1) a_nil)))))))
      (b_one (s_ret (e_tup (a_cons (ev 5) (a_cons (e_if (t_cmp o_isN (ev 3) e_non) (ev 1) (e_call h_moved (hr.mono (by decide)) tk (a_cons (ev 3) (a_cons (ev 1) (a_cons e_int (a_cons (ev 1) a_nil)))))) a_nil)))))) b_nil)
      (b_cons (s_set 5 sc.nd (e_if (t_cmp o_isN (ev 2) e_non) (e_op o_sub (ev 1) e_int) (e_call h_moved (hr.mono (by decide)) tk (a_cons (ev 2) (a_cons (ev 1) (a_cons (e_op o_sub e_int e_int) (a_cons (e_op o_sub (ev 1) e_int) a_nil)))))))
      (b_one (s_ret (e_tup (a_cons (ev 5) (a_cons (e_if (t_cmp o_isN (ev 3) e_non) (e_op o_sub e_int e_int) (e_call h_moved (hr.mono (by decide)) tk (a_cons (ev 3) (a_cons (ev 1) (a_cons (e_op o_sub e_int e_int) (a_cons (e_op o_sub (ev 1) e_int) a_nil)))))) a_nil))))))))
theorem ok_View_shown (T : Tx K mg) : HasA P w K mg base 2 (He.ma K (He.ga K "View") "shown") (sp_View_shown (He.ga K "View")) := by
  obtain ⟨fd, F⟩ := T.f_View_shown
  have h_cleaned : Has P w K mg base 1 "cleaned" ["shown"] sp_cleaned := ok_cleaned T
  have sc := sc_View_shown
  refine HasA.mk (N := N_View_shown) F sc (FunD.bindsN F fun _ _ _ _ _ _ us hl => match us, hl with | [_], _ => rfl) View_shown_mono View_shown_lenD (pure_View_shown (He.ga K "View")) (fun cdv A outer s H E hr => ?_)
  have hu := hr.units
  have tk : L2N.Takes (cxOf (L2N.CX P w) P w K mg base N_View_shown "View.shown" (defScope s_View_shown) (He.ma K (He.ga K "View") "shown") cdv A outer s H E) (fun cls d _ H => E cls d H) := L2N.takes_of rfl rfl rfl rfl
  exact (b_one (s_ret (e_call h_cleaned (hr.mono (by decide)) tk (a_cons (e_ix i_seq (e_fld T.cl_View T.n_View_views (ev 0)) (e_un u_neg e_int)) a_nil))))
theorem ok_View_place (T : Tx K mg) : HasA P w K mg base 2 (He.ma K (He.ga K "View") "place") (sp_View_place (He.ga K "View") (He.ga K "InvalidNumber")) := by
  obtain ⟨fd, F⟩ := T.f_View_place
  have h_is_integer : Has P w K mg base 1 "is_integer" ["value", "low", "high"] sp_is_integer := ok_is_integer T
  have sc := sc_View_place
  refine HasA.mk (N := N_View_place) F sc (FunD.bindsN F fun _ _ _ _ _ _ us hl => match us, hl with | [_, _], _ => rfl) View_place_mono View_place_lenD (pure_View_place (He.ga K "InvalidNumber") (He.ga K "View")) (fun cdv A outer s H E hr => ?_)
  have hu := hr.units
  have tk : L2N.Takes (cxOf (L2N.CX P w) P w K mg base N_View_place "View.place" (defScope s_View_place) (He.ma K (He.ga K "View") "place") cdv A outer s H E) (fun cls d _ H => E cls d H) := L2N.takes_of rfl rfl rfl rfl
  exact (b_cons (s_asg (e_ix i_seq (e_fld T.cl_View T.n_View_views (ev 0)) (e_un u_neg e_int)) (g_tup rfl (gs_cons (g_name 2 sc.nd) (gs_cons (g_name 3 sc.nd) (gs_cons (g_name 4 sc.nd) gs_nil)))))
      (b_cons (s_if (t_not (t_val (e_call h_is_integer (hr.mono (by decide)) tk (a_cons (ev 1) (a_cons e_int (a_cons (e_op o_sub (ev 4) e_int) a_nil)))))) (b_one (s_raise rfl tk T.x_InvalidNumber)) b_nil)
      (b_one (s_ret (e_op o_add (ev 2) (e_op o_mul (ev 3) (ev 1)))))))
theorem ok__law_of (T : Tx K mg) : Has P w K mg base 2 "_law_of" ["_law_bag_here", "_law_some"] sp__law_of := by
  obtain ⟨fd, F⟩ := T.f__law_of
  have h__law_take : Has P w K mg base 1 "_law_take" ["_law_bag_here", "_law_count"] sp__law_take := ok__law_take T
  have sc := sc__law_of
  refine Has.mk (N := N__law_of) F sc T.g__law_of (FunD.bindsN F fun _ _ _ _ _ _ us hl => match us, hl with | [_, _], _ => rfl) bsp.mono (bsp.len fun _ => rfl) pure__law_of (fun cdv A outer s H E hr => ?_)
  have hu := hr.units
  have tk : L2N.Takes (cxOf (L2N.CX P w) P w K mg base N__law_of "_law_of" (defScope s__law_of) (He.ga K "_law_of") cdv A outer s H E) (fun cls d _ H => E cls d H) := L2N.takes_of rfl rfl rfl rfl
  exact (b_one (s_ret (e_ix i_seq (ev 1) (e_call h__law_take (hr.mono (by decide)) tk (a_cons (ev 0) (a_cons (e_callB c_len T.m_len boot_len (a_cons (ev 1) a_nil)) a_nil))))))
theorem ok__law_shown (T : Tx K mg) : Has P w K mg base 2 "_law_shown" ["_law_chain_here", "_law_length"] sp__law_shown := by
  obtain ⟨fd, F⟩ := T.f__law_shown
  have h__law_part : Has P w K mg base 1 "_law_part" ["_law_one", "_law_c"] sp__law_part := ok__law_part T
  have sc := sc__law_shown
  refine Has.mk (N := N__law_shown) F sc T.g__law_shown (FunD.bindsN F fun _ _ _ _ _ _ us hl => match us, hl with | [_, _], _ => rfl) psp.mono (psp.len fun _ => rfl) pure__law_shown (fun cdv A outer s H E hr => ?_)
  have hu := hr.units
  have tk : L2N.Takes (cxOf (L2N.CX P w) P w K mg base N__law_shown "_law_shown" (defScope s__law_shown) (He.ga K "_law_shown") cdv A outer s H E) (fun cls d _ H => E cls d H) := L2N.takes_of rfl rfl rfl rfl
  exact (b_cons (s_par3 2 3 4 rfl sc.nd (a_cons e_int (a_cons e_int (a_cons (ev 1) a_nil))))
      (b_cons (s_for (passes_of rfl) rfl (j_tup (ev 0)) (g_name 5 sc.nd) (b_cons (s_asg (e_call h__law_part (hr.mono (by decide)) tk (a_cons (ev 5) (a_cons (ev 4) a_nil))) (g_tup rfl (gs_cons (g_name 6 sc.nd) (gs_cons (g_name 7 sc.nd) gs_nil))))
      (b_one (s_par3 2 3 4 rfl sc.nd (a_cons (e_op o_add (ev 2) (e_op o_mul (ev 3) (ev 6))) (a_cons (e_op o_mul (ev 3) (e_ix i_seq (ev 5) e_int)) (a_cons (ev 7) a_nil)))))))
      (b_one (s_ret (e_tup (a_cons (e_if (t_cmp o_gt (ev 4) e_int) (ev 2) e_non) (a_cons (e_if (t_cmp o_gt (ev 4) e_int) (ev 3) e_non) (a_cons (ev 4) a_nil))))))))
theorem ok_is_slice (T : Tx K mg) : Has P w K mg base 3 "is_slice" ["value"] sp_is_slice := by
  obtain ⟨fd, F⟩ := T.f_is_slice
  have h_is_bound : Has P w K mg base 2 "is_bound" ["value"] sp_is_bound := ok_is_bound T
  have h_is_step : Has P w K mg base 2 "is_step" ["value"] sp_is_step := ok_is_step T
  have sc := sc_is_slice
  refine Has.mk (N := N_is_slice) F sc T.g_is_slice (FunD.bindsN F fun _ _ _ _ _ _ us hl => match us, hl with | [_], _ => rfl) psp.mono (psp.len fun _ => rfl) pure_is_slice (fun cdv A outer s H E hr => ?_)
  have hu := hr.units
  have tk : L2N.Takes (cxOf (L2N.CX P w) P w K mg base N_is_slice "is_slice" (defScope s_is_slice) (He.ga K "is_slice") cdv A outer s H E) (fun cls d _ H => E cls d H) := L2N.takes_of rfl rfl rfl rfl
  exact (b_cons (s_if ((w_or (t_not (t_val (e_isi (ev 0) T.m_isinstance T.m_tuple boot_tuple))) (w_or1 (t_cmp o_ne (e_callB c_len T.m_len boot_len (a_cons (ev 0) a_nil)) e_int)))).t (b_one (s_ret e_bl)) b_nil)
      (b_one (s_ret (e_and (e_call h_is_bound (hr.mono (by decide)) tk (a_cons (e_ix i_seq (ev 0) e_int) a_nil)) (e_and (e_call h_is_bound (hr.mono (by decide)) tk (a_cons (e_ix i_seq (ev 0) e_int) a_nil)) (e_one (e_call h_is_step (hr.mono (by decide)) tk (a_cons (e_ix i_seq (ev 0) e_int) a_nil))))))))
theorem ok_applied (T : Tx K mg) : Has P w K mg base 3 "applied" ["one", "shown"] sp_applied := by
  obtain ⟨fd, F⟩ := T.f_applied
  have h_ends : Has P w K mg base 2 "ends" ["one", "count"] sp_ends := ok_ends T
  have sc := sc_applied
  refine Has.mk (N := N_applied) F sc T.g_applied (FunD.bindsN F fun _ _ _ _ _ _ us hl => match us, hl with | [_, _], _ => rfl) psp.mono (psp.len fun _ => rfl) pure_applied (fun cdv A outer s H E hr => ?_)
  have hu := hr.units
  have tk : L2N.Takes (cxOf (L2N.CX P w) P w K mg base N_applied "applied" (defScope s_applied) (He.ga K "applied") cdv A outer s H E) (fun cls d _ H => E cls d H) := L2N.takes_of rfl rfl rfl rfl
  exact (b_cons (s_asg (ev 1) (g_tup rfl (gs_cons (g_name 2 sc.nd) (gs_cons (g_name 3 sc.nd) (gs_cons (g_name 4 sc.nd) gs_nil)))))
      (b_cons (s_asg (e_call h_ends (hr.mono (by decide)) tk (a_cons (ev 0) (a_cons (ev 4) a_nil))) (g_tup rfl (gs_cons (g_name 5 sc.nd) (gs_cons (g_name 6 sc.nd) gs_nil))))
      (b_cons (s_if (t_cmp o_gt (e_ix i_seq (ev 0) e_int) e_int) (b_one (s_set 7 sc.nd (e_callB (c_max2 rfl) T.m_max boot_max (a_cons e_int (a_cons (e_op o_fdiv (e_op o_sub (e_op o_add (e_op o_sub (ev 6) (ev 5)) (e_ix i_seq (ev 0) e_int)) e_int) (e_ix i_seq (ev 0) e_int)) a_nil))))) (b_one (s_set 7 sc.nd (e_callB (c_max2 rfl) T.m_max boot_max (a_cons e_int (a_cons (e_op o_fdiv (e_op o_sub (e_op o_sub (e_op o_sub (ev 5) (ev 6)) (e_ix i_seq (ev 0) e_int)) e_int) (e_op o_sub e_int (e_ix i_seq (ev 0) e_int))) a_nil))))))
      (b_one (s_ret (e_tup (a_cons (e_op o_add (ev 2) (e_op o_mul (ev 3) (ev 5))) (a_cons (e_op o_mul (ev 3) (e_ix i_seq (ev 0) e_int)) (a_cons (ev 7) a_nil)))))))))
theorem ok_View___init__ (T : Tx K mg) : HasA P w K mg base 3 (He.ma K (He.ga K "View") "__init__") (sp_View_init (He.ga K "View")) := by
  obtain ⟨fd, F⟩ := T.f_View___init__
  have h_require_length : Has P w K mg base 2 "require_length" ["length", "most"] sp_require_length := ok_require_length T
  have sc := sc_View___init__
  refine HasA.mk (N := N_View___init__) F sc (FunD.bindsN F fun _ _ _ _ _ _ us hl => match us, hl with | [_, _], _ => rfl) View_init_mono View_init_lenD (pure_View_init (He.ga K "View")) (fun cdv A outer s H E hr => ?_)
  have hu := hr.units
  have tk : L2N.Takes (cxOf (L2N.CX P w) P w K mg base N_View___init__ "View.__init__" (defScope s_View___init__) (He.ma K (He.ga K "View") "__init__") cdv A outer s H E) (fun cls d _ H => E cls d H) := L2N.takes_of rfl rfl rfl rfl
  exact (b_cons (s_expr (e_call h_require_length (hr.mono (by decide)) tk (a_cons (ev 1) (a_cons (e_globI T.c_FAR) a_nil))))
      (b_cons (s_fld T.cl_View T.n_View_length (ev 0) (ev 1))
      (b_cons (s_fld T.cl_View T.n_View_slices (ev 0) (e_lst a_nil))
      (b_one (s_fld T.cl_View T.n_View_views (ev 0) (e_lst (a_cons (e_tup (a_cons e_int (a_cons e_int (a_cons (ev 1) a_nil)))) a_nil)))))))
theorem ok_View___eq__ (T : Tx K mg) : HasA P w K mg base 3 (He.ma K (He.ga K "View") "__eq__") (sp_View_eq (He.ga K "View")) := by
  obtain ⟨fd, F⟩ := T.f_View___eq__
  have h_View_shown : HasA P w K mg base 2 (He.ma K (He.ga K "View") "shown") (sp_View_shown (He.ga K "View")) := ok_View_shown T
  have sc := sc_View___eq__
  refine HasA.mk (N := N_View___eq__) F sc (FunD.bindsN F fun _ _ _ _ _ _ us hl => match us, hl with | [_, _], _ => rfl) View_eq_mono View_eq_lenD (pure_View_eq (He.ga K "View")) (fun cdv A outer s H E hr => ?_)
  have hu := hr.units
  have tk : L2N.Takes (cxOf (L2N.CX P w) P w K mg base N_View___eq__ "View.__eq__" (defScope s_View___eq__) (He.ma K (He.ga K "View") "__eq__") cdv A outer s H E) (fun cls d _ H => E cls d H) := L2N.takes_of rfl rfl rfl rfl
  exact (b_cons (s_if ((w_or (t_not (t_val (e_isO T.io_View T.cl_View (ev 1) T.m_isinstance T.g_View))) (w_or1 (t_cmp o_ne (e_fld T.cl_View T.n_View_length (ev 0)) (e_fld T.cl_View T.n_View_length (ev 1)))))).t (b_one (s_ret e_bl)) b_nil)
      (b_one (s_ret (e_cmp (o_eqD hu) (e_meth0 T.cl_View T.me_View_shown h_View_shown (hr.mono (by decide)) tk (ev 0)) (e_meth0 T.cl_View T.me_View_shown h_View_shown (hr.mono (by decide)) tk (ev 1))))))
theorem ok__law_bound (T : Tx K mg) : Has P w K mg base 3 "_law_bound" ["_law_bag_here", "_law_wide"] sp__law_bound := by
  obtain ⟨fd, F⟩ := T.f__law_bound
  have h__law_take : Has P w K mg base 1 "_law_take" ["_law_bag_here", "_law_count"] sp__law_take := ok__law_take T
  have h__law_of : Has P w K mg base 2 "_law_of" ["_law_bag_here", "_law_some"] sp__law_of := ok__law_of T
  have sc := sc__law_bound
  refine Has.mk (N := N__law_bound) F sc T.g__law_bound (FunD.bindsN F fun _ _ _ _ _ _ us hl => match us, hl with | [_, _], _ => rfl) bsp.mono (bsp.len fun _ => rfl) pure__law_bound (fun cdv A outer s H E hr => ?_)
  have hu := hr.units
  have tk : L2N.Takes (cxOf (L2N.CX P w) P w K mg base N__law_bound "_law_bound" (defScope s__law_bound) (He.ga K "_law_bound") cdv A outer s H E) (fun cls d _ H => E cls d H) := L2N.takes_of rfl rfl rfl rfl
  exact (b_one (s_ret (e_call h__law_of (hr.mono (by decide)) tk (a_cons (ev 0) (a_cons (e_lst (a_cons e_non (a_cons e_non (a_cons e_int (a_cons e_int (a_cons (e_un u_neg e_int) (a_cons (e_call h__law_take (hr.mono (by decide)) tk (a_cons (ev 0) (a_cons (e_op o_add (ev 1) e_int) a_nil))) (a_cons (e_op o_sub e_int (e_call h__law_take (hr.mono (by decide)) tk (a_cons (ev 0) (a_cons (e_op o_add (ev 1) e_int) a_nil)))) a_nil)))))))) a_nil)))))
theorem ok__law_due (T : Tx K mg) : Has P w K mg base 3 "_law_due" ["_law_length", "_law_done", "_law_action_here"] (sp_law_due) := by
  obtain ⟨fd, F⟩ := T.f__law_due
  have h__law_shown : Has P w K mg base 2 "_law_shown" ["_law_chain_here", "_law_length"] sp__law_shown := ok__law_shown T
  have h__law_good : Has P w K mg base 1 "_law_good" ["_law_one"] sp__law_good := ok__law_good T
  have sc := sc__law_due
  refine Has.mk (N := N__law_due) F sc T.g__law_due (FunD.bindsN F fun _ _ _ _ _ _ us hl => match us, hl with | [_, _, _], _ => rfl) law_due_mono law_due_lenD pure_law_due (fun cdv A outer s H E hr => ?_)
  have hu := hr.units
  have tk : L2N.Takes (cxOf (L2N.CX P w) P w K mg base N__law_due "_law_due" (defScope s__law_due) (He.ga K "_law_due") cdv A outer s H E) (fun cls d _ H => E cls d H) := L2N.takes_of rfl rfl rfl rfl
  exact (b_cons (s_asg (e_call h__law_shown (hr.mono (by decide)) tk (a_cons (e_callTy c_tuple T.m_tuple boot_tuple (a_cons (ev 1) a_nil)) (a_cons (ev 0) a_nil))) (g_tup rfl (gs_cons (g_name 3 sc.nd) (gs_cons (g_name 4 sc.nd) (gs_cons (g_name 5 sc.nd) gs_nil)))))
      (b_cons (s_if (t_cmp o_eq (e_ix i_seq (ev 2) e_int) e_str) (b_cons (s_if (t_cmp (o_eqD hu) (ev 1) (e_lst a_nil)) (b_one (s_ret e_str)) b_nil)
      (b_cons (s_expr (e_mt0 PySem.F.slot_list_pop PySem.F.type_list_pop m_pop (ev 1)))
      (b_one (s_ret e_non)))) b_nil)
      (b_cons (s_if (t_cmp o_eq (e_ix i_seq (ev 2) e_int) e_str) (b_cons (s_if (t_not (t_val (e_call h__law_good (hr.mono (by decide)) tk (a_cons (e_slice s_tup (ev 2) (p_some e_int) p_none) a_nil)))) (b_one (s_ret e_str)) b_nil)
      (b_cons (s_expr (e_mt PySem.F.slot_list_append PySem.F.type_list_append m_append (ev 1) (a_cons (e_slice s_tup (ev 2) (p_some e_int) p_none) a_nil)))
      (b_one (s_ret e_non)))) b_nil)
      (b_cons (s_set 6 sc.nd (e_ix i_seq (ev 2) e_int))
      (b_cons (s_if ((w_or (t_not (t_val (e_isi (ev 6) T.m_isinstance T.m_int boot_int))) (w_or (t_val (e_isi (ev 6) T.m_isinstance T.m_bool boot_bool)) (w_or1 (t_not (t_chain o_le o_lt e_int (ev 6) (ev 5))))))).t (b_one (s_ret e_str)) b_nil)
      (b_one (s_ret (e_op o_add (ev 3) (e_op o_mul (e_orT (ev 4) (e_one e_int)) (ev 6))))))))))
theorem ok_View_slice (T : Tx K mg) : HasA P w K mg base 4 (He.ma K (He.ga K "View") "slice") (sp_View_slice (He.ga K "View") (He.ga K "InvalidSlice") (He.ga K "TooMany")) := by
  obtain ⟨fd, F⟩ := T.f_View_slice
  have h_is_slice : Has P w K mg base 3 "is_slice" ["value"] sp_is_slice := ok_is_slice T
  have h_applied : Has P w K mg base 3 "applied" ["one", "shown"] sp_applied := ok_applied T
  have sc := sc_View_slice
  refine HasA.mk (N := N_View_slice) F sc (FunD.bindsN F fun _ _ _ _ _ _ us hl => match us, hl with | [_, _, _, _], _ => rfl) View_slice_mono View_slice_lenD (pure_View_slice (He.ga K "InvalidSlice") (He.ga K "TooMany") (He.ga K "View")) (fun cdv A outer s H E hr => ?_)
  have hu := hr.units
  have tk : L2N.Takes (cxOf (L2N.CX P w) P w K mg base N_View_slice "View.slice" (defScope s_View_slice) (He.ma K (He.ga K "View") "slice") cdv A outer s H E) (fun cls d _ H => E cls d H) := L2N.takes_of rfl rfl rfl rfl
  exact (b_cons (s_set 4 sc.nd (e_tup (a_cons (ev 1) (a_cons (ev 2) (a_cons (ev 3) a_nil)))))
      (b_cons (s_if (t_not (t_val (e_call h_is_slice (hr.mono (by decide)) tk (a_cons (ev 4) a_nil)))) (b_one (s_raise rfl tk T.x_InvalidSlice)) b_nil)
      (b_cons (s_if (t_cmp o_eq (e_callB c_len T.m_len boot_len (a_cons (e_fld T.cl_View T.n_View_slices (ev 0)) a_nil)) (e_globI T.c_MOST)) (b_one (s_raise rfl tk T.x_TooMany)) b_nil)
      (b_cons (s_expr (e_mt PySem.F.slot_list_append PySem.F.type_list_append m_append (e_fld T.cl_View T.n_View_slices (ev 0)) (a_cons (ev 4) a_nil)))
      (b_one (s_expr (e_mt PySem.F.slot_list_append PySem.F.type_list_append m_append (e_fld T.cl_View T.n_View_views (ev 0)) (a_cons (e_call h_applied (hr.mono (by decide)) tk (a_cons (ev 4) (a_cons (e_ix i_seq (e_fld T.cl_View T.n_View_views (ev 0)) (e_un u_neg e_int)) a_nil))) a_nil))))))))
theorem ok__law_slice (T : Tx K mg) : Has P w K mg base 4 "_law_slice" ["_law_bag_here", "_law_wide"] sp__law_slice := by
  obtain ⟨fd, F⟩ := T.f__law_slice
  have h__law_of : Has P w K mg base 2 "_law_of" ["_law_bag_here", "_law_some"] sp__law_of := ok__law_of T
  have h__law_bound : Has P w K mg base 3 "_law_bound" ["_law_bag_here", "_law_wide"] sp__law_bound := ok__law_bound T
  have sc := sc__law_slice
  refine Has.mk (N := N__law_slice) F sc T.g__law_slice (FunD.bindsN F fun _ _ _ _ _ _ us hl => match us, hl with | [_, _], _ => rfl) bsp.mono (bsp.len fun _ => rfl) pure__law_slice (fun cdv A outer s H E hr => ?_)
  have hu := hr.units
  have tk : L2N.Takes (cxOf (L2N.CX P w) P w K mg base N__law_slice "_law_slice" (defScope s__law_slice) (He.ga K "_law_slice") cdv A outer s H E) (fun cls d _ H => E cls d H) := L2N.takes_of rfl rfl rfl rfl
  exact (b_one (s_ret (e_tup (a_cons (e_call h__law_bound (hr.mono (by decide)) tk (a_cons (ev 0) (a_cons (ev 1) a_nil))) (a_cons (e_call h__law_bound (hr.mono (by decide)) tk (a_cons (ev 0) (a_cons (ev 1) a_nil))) (a_cons (e_call h__law_of (hr.mono (by decide)) tk (a_cons (ev 0) (a_cons (e_lst (a_cons e_int (a_cons e_int (a_cons e_int (a_cons (e_un u_neg e_int) (a_cons (e_un u_neg e_int) (a_cons e_int (a_cons (e_un u_neg e_int) a_nil)))))))) a_nil))) a_nil))))))
theorem ok__law_did (T : Tx K mg) : Has P w K mg base 5 "_law_did" ["_law_run", "_law_action_here"] (sp_law_did (He.ga K "View")) := by
  obtain ⟨fd, F⟩ := T.f__law_did
  have h_View_slice : HasA P w K mg base 4 (He.ma K (He.ga K "View") "slice") (sp_View_slice (He.ga K "View") (He.ga K "InvalidSlice") (He.ga K "TooMany")) := ok_View_slice T
  have h_View_undo : HasA P w K mg base 1 (He.ma K (He.ga K "View") "undo") (sp_View_undo (He.ga K "View") (He.ga K "NothingToUndo")) := ok_View_undo T
  have h_View_place : HasA P w K mg base 2 (He.ma K (He.ga K "View") "place") (sp_View_place (He.ga K "View") (He.ga K "InvalidNumber")) := ok_View_place T
  have sc := sc__law_did
  refine Has.mk (N := N__law_did) F sc T.g__law_did (FunD.bindsN F fun _ _ _ _ _ _ us hl => match us, hl with | [_, _], _ => rfl) law_did_mono law_did_lenD (pure_law_did (He.ga K "InvalidNumber") (He.ga K "InvalidSlice") (He.ga K "NothingToUndo") (He.ga K "TooMany") (He.ga K "View") (kit_ne T.k_InvalidSlice_InvalidSlice T.k_NothingToUndo_InvalidSlice) (kit_ne T.k_InvalidSlice_InvalidSlice T.k_InvalidNumber_InvalidSlice) (kit_ne T.k_NothingToUndo_NothingToUndo T.k_InvalidNumber_NothingToUndo)) (fun cdv A outer s H E hr => ?_)
  have hu := hr.units
  have tk : L2N.Takes (cxOf (L2N.CX P w) P w K mg base N__law_did "_law_did" (defScope s__law_did) (He.ga K "_law_did") cdv A outer s H E) (fun cls d _ H => E cls d H) := L2N.takes_of rfl rfl rfl rfl
  exact (b_one (s_try (i := 2) (ok := okL [(He.ga K "InvalidSlice", true), (He.ga K "NothingToUndo", true), (He.ga K "InvalidNumber", true)]) (passes_of rfl) sc.nd ⟨rfl, by decide, .inl T.x_ChainError.g⟩ tk (lk_exm (l := [(He.ga K "InvalidSlice", true), (He.ga K "NothingToUndo", true), (He.ga K "InvalidNumber", true)]) (allc T.m_InvalidSlice_ChainError (allc T.m_NothingToUndo_ChainError (all1 T.m_InvalidNumber_ChainError)))) (fun _ _ _ tk hp => (b_cons (s_if (t_cmp o_eq (e_ix i_seq (ev 1) e_int) e_str) (b_one (s_ret (e_meth T.cl_View T.me_View_slice h_View_slice (hr.mono (by decide)) tk (ev 0) (a_cons (e_ix i_seq (ev 1) e_int) (a_cons (e_ix i_seq (ev 1) e_int) (a_cons (e_ix i_seq (ev 1) e_int) a_nil)))))) b_nil)
      (b_one (s_ret (e_if (t_cmp o_eq (e_ix i_seq (ev 1) e_int) e_str) (e_meth0 T.cl_View T.me_View_undo h_View_undo (hr.mono (by decide)) tk (ev 0)) (e_meth T.cl_View T.me_View_place h_View_place (hr.mono (by decide)) tk (ev 0) (a_cons (e_ix i_seq (ev 1) e_int) a_nil))))))) (fun _ _ _ _ ok hz hf => (b_cons (s_set 3 sc.nd (e_lst (a_cons (e_isE 2 (lk_exc (allc T.e_InvalidSlice (allc T.e_NothingToUndo (all1 T.e_InvalidNumber))) _ ok) hz hf (lk_kit (l := [(He.ga K "InvalidSlice", true), (He.ga K "NothingToUndo", false), (He.ga K "InvalidNumber", false)]) (allc T.k_InvalidSlice_InvalidSlice (allc T.k_NothingToUndo_InvalidSlice (all1 T.k_InvalidNumber_InvalidSlice))) _) (ev 2) T.m_isinstance T.x_InvalidSlice.g) (a_cons (e_isE 2 (lk_exc (allc T.e_InvalidSlice (allc T.e_NothingToUndo (all1 T.e_InvalidNumber))) _ ok) hz hf (lk_kit (l := [(He.ga K "InvalidSlice", false), (He.ga K "NothingToUndo", true), (He.ga K "InvalidNumber", false)]) (allc T.k_InvalidSlice_NothingToUndo (allc T.k_NothingToUndo_NothingToUndo (all1 T.k_InvalidNumber_NothingToUndo))) _) (ev 2) T.m_isinstance T.x_NothingToUndo.g) (a_cons (e_isE 2 (lk_exc (allc T.e_InvalidSlice (allc T.e_NothingToUndo (all1 T.e_InvalidNumber))) _ ok) hz hf (lk_kit (l := [(He.ga K "InvalidSlice", false), (He.ga K "NothingToUndo", false), (He.ga K "InvalidNumber", true)]) (allc T.k_InvalidSlice_InvalidNumber (allc T.k_NothingToUndo_InvalidNumber (all1 T.k_InvalidNumber_InvalidNumber))) _) (ev 2) T.m_isinstance T.x_InvalidNumber.g) a_nil)))))
      (b_one (s_ret (e_join e_str (e_lcZ (own := [("_law_word", 5), ("_law_good_here", 4)]) (hotC_suite hz hf) sc.nd (e_lst (a_cons e_str (a_cons e_str (a_cons e_str a_nil)))) (ev 3) T.m_zip (blkOk_by (N := N__law_did) (sc := defScope s__law_did) (by decide +kernel)) (cg_pair 5 4 (by decide)) (fun _ _ _ _ _ hb => pg_tupH hb (pgs_cons (pg_name (i := 5) sc.nd rfl (Or.inl rfl)) (pgs_cons (pg_name (i := 4) sc.nd rfl (Or.inl rfl)) pgs_nil))) (fun _ _ _ _ _ => (f_one (t_tru (ev 4)))) (fun _ _ _ _ _ => (ev 5))))))))))
theorem ok__law_action (T : Tx K mg) : Has P w K mg base 5 "_law_action" ["_law_bag_here", "_law_many"] sp__law_action := by
  obtain ⟨fd, F⟩ := T.f__law_action
  have h__law_take : Has P w K mg base 1 "_law_take" ["_law_bag_here", "_law_count"] sp__law_take := ok__law_take T
  have h__law_of : Has P w K mg base 2 "_law_of" ["_law_bag_here", "_law_some"] sp__law_of := ok__law_of T
  have h__law_slice : Has P w K mg base 4 "_law_slice" ["_law_bag_here", "_law_wide"] sp__law_slice := ok__law_slice T
  have sc := sc__law_action
  refine Has.mk (N := N__law_action) F sc T.g__law_action (FunD.bindsN F fun _ _ _ _ _ _ us hl => match us, hl with | [_, _], _ => rfl) bsp.mono (bsp.len fun _ => rfl) pure__law_action (fun cdv A outer s H E hr => ?_)
  have hu := hr.units
  have tk : L2N.Takes (cxOf (L2N.CX P w) P w K mg base N__law_action "_law_action" (defScope s__law_action) (He.ga K "_law_action") cdv A outer s H E) (fun cls d _ H => E cls d H) := L2N.takes_of rfl rfl rfl rfl
  exact (b_cons (s_set 2 sc.nd (e_call h__law_take (hr.mono (by decide)) tk (a_cons (ev 0) (a_cons e_int a_nil))))
      (b_cons (s_if (t_cmp o_lt (ev 2) e_int) (b_cons (s_asg (e_call h__law_slice (hr.mono (by decide)) tk (a_cons (ev 0) (a_cons e_int a_nil))) (g_tup rfl (gs_cons (g_name 3 sc.nd) (gs_cons (g_name 4 sc.nd) (gs_cons (g_name 5 sc.nd) gs_nil)))))
      (b_one (s_ret (e_tup (a_cons e_str (a_cons (ev 3) (a_cons (ev 4) (a_cons (ev 5) a_nil)))))))) b_nil)
      (b_cons (s_if (t_cmp o_lt (ev 2) e_int) (b_cons (s_set 6 sc.nd (e_lst (a_cons (e_tup (a_cons e_str (a_cons e_non (a_cons e_int a_nil)))) (a_cons (e_tup (a_cons e_int (a_cons e_int (a_cons e_int a_nil)))) (a_cons (e_tup (a_cons e_non (a_cons e_non (a_cons e_int a_nil)))) (a_cons (e_tup (a_cons e_int (a_cons e_bl (a_cons e_int a_nil)))) (a_cons (e_tup (a_cons e_non (a_cons e_non (a_cons e_int a_nil)))) (a_cons (e_tup (a_cons e_non (a_cons e_non (a_cons e_non a_nil)))) a_nil))))))))
      (b_cons (s_asg (e_call h__law_of (hr.mono (by decide)) tk (a_cons (ev 0) (a_cons (ev 6) a_nil))) (g_tup rfl (gs_cons (g_name 3 sc.nd) (gs_cons (g_name 4 sc.nd) (gs_cons (g_name 5 sc.nd) gs_nil)))))
      (b_one (s_ret (e_tup (a_cons e_str (a_cons (ev 3) (a_cons (ev 4) (a_cons (ev 5) a_nil))))))))) b_nil)
      (b_cons (s_if (t_cmp o_lt (ev 2) e_int) (b_one (s_ret (e_tup (a_cons e_str a_nil)))) b_nil)
      (b_one (s_ret (e_tup (a_cons e_str (a_cons (e_call h__law_of (hr.mono (by decide)) tk (a_cons (ev 0) (a_cons (e_lst (a_cons e_int (a_cons (e_call h__law_take (hr.mono (by decide)) tk (a_cons (ev 0) (a_cons (e_op o_add (ev 1) e_int) a_nil))) (a_cons (e_op o_sub (ev 1) e_int) (a_cons (ev 1) (a_cons (e_un u_neg e_int) (a_cons e_non (a_cons e_bl a_nil)))))))) a_nil))) a_nil)))))))))
theorem ok_law (T : Tx K mg) {f : Addr} {fd : FuncData} (F : FunD K "law" "law" (defArgs s_law) (defBody s_law) (defScope s_law) [] [] f fd) : FnOk P w K mg base (L2N.CX P w) 6 f fd ["_law_script"] (lift K sp_law) := by
  have h_View___init__ : HasA P w K mg base 3 (He.ma K (He.ga K "View") "__init__") (sp_View_init (He.ga K "View")) := ok_View___init__ T
  have h_View___len__ : HasA P w K mg base 1 (He.ma K (He.ga K "View") "__len__") (sp_View_len (He.ga K "View")) := ok_View___len__ T
  have h_View___eq__ : HasA P w K mg base 3 (He.ma K (He.ga K "View") "__eq__") (sp_View_eq (He.ga K "View")) := ok_View___eq__ T
  have h_View_undo : HasA P w K mg base 1 (He.ma K (He.ga K "View") "undo") (sp_View_undo (He.ga K "View") (He.ga K "NothingToUndo")) := ok_View_undo T
  have h_View_shown : HasA P w K mg base 2 (He.ma K (He.ga K "View") "shown") (sp_View_shown (He.ga K "View")) := ok_View_shown T
  have h__law_bag : Has P w K mg base 1 "_law_bag" ["_law_script", "_law_k"] sp__law_bag := ok__law_bag T
  have h__law_take : Has P w K mg base 1 "_law_take" ["_law_bag_here", "_law_count"] sp__law_take := ok__law_take T
  have h__law_of : Has P w K mg base 2 "_law_of" ["_law_bag_here", "_law_some"] sp__law_of := ok__law_of T
  have h__law_shown : Has P w K mg base 2 "_law_shown" ["_law_chain_here", "_law_length"] sp__law_shown := ok__law_shown T
  have h__law_did : Has P w K mg base 5 "_law_did" ["_law_run", "_law_action_here"] (sp_law_did (He.ga K "View")) := ok__law_did T
  have h__law_action : Has P w K mg base 5 "_law_action" ["_law_bag_here", "_law_many"] sp__law_action := ok__law_action T
  have h__law_due : Has P w K mg base 3 "_law_due" ["_law_length", "_law_done", "_law_action_here"] (sp_law_due) := ok__law_due T
  have sc := sc_law
  refine fnok_mk (N := N_law) F sc law_len (pure_law (He.ga K "NothingToUndo") (He.ga K "View")) (fun cdv A outer s H E hr => ?_)
  have hu := hr.units
  have tk : L2N.Takes (cxOf (L2N.CX P w) P w K mg base N_law "law" (defScope s_law) f cdv A outer s H E) (fun cls d _ H => E cls d H) := L2N.takes_of rfl rfl rfl rfl
  exact (b_cons (s_set 1 sc.nd (e_call h__law_bag (hr.mono (by decide)) tk (a_cons (ev 0) (a_cons e_int a_nil))))
      (b_cons (s_set 2 sc.nd (e_call h__law_of (hr.mono (by decide)) tk (a_cons (ev 1) (a_cons (e_lst (a_cons (e_call h__law_take (hr.mono (by decide)) tk (a_cons (ev 1) (a_cons e_int a_nil))) (a_cons (e_op o_pow e_int e_int) (a_cons (e_call h__law_take (hr.mono (by decide)) tk (a_cons (ev 1) (a_cons (e_op o_pow e_int e_int) a_nil))) a_nil)))) a_nil))))
      (b_cons (s_par3 3 4 5 rfl sc.nd (a_cons (e_make T.mk_View h_View___init__ (hr.mono (by decide)) T.g_View (a_cons (ev 2) a_nil)) (a_cons (e_make T.mk_View h_View___init__ (hr.mono (by decide)) T.g_View (a_cons (ev 2) a_nil)) (a_cons (e_lst a_nil) a_nil))))
      (b_cons (s_for (passes_of rfl) rfl (j_range1 (e_op o_add (e_callB (c_min2 rfl) T.m_min boot_min (a_cons (e_callB c_len T.m_len boot_len (a_cons (ev 0) a_nil)) (a_cons e_int a_nil))) e_int) T.m_range) (g_name 6 sc.nd) (b_cons (s_set 1 sc.nd (e_call h__law_bag (hr.mono (by decide)) tk (a_cons (ev 0) (a_cons (ev 6) a_nil))))
      (b_one (s_for (passes_of rfl) rfl (j_range1 e_int T.m_range) (g_name 7 sc.nd) (b_cons (s_set 8 sc.nd (e_call h__law_action (hr.mono (by decide)) tk (a_cons (ev 1) (a_cons (e_ix i_seq (e_call h__law_shown (hr.mono (by decide)) tk (a_cons (e_callTy c_tuple T.m_tuple boot_tuple (a_cons (ev 5) a_nil)) (a_cons (ev 2) a_nil))) e_int) a_nil))))
      (b_cons (s_set 9 sc.nd (e_call h__law_due (hr.mono (by decide)) tk (a_cons (ev 2) (a_cons (ev 5) (a_cons (ev 8) a_nil)))))
      (b_cons (s_set 10 sc.nd (e_call h__law_did (hr.mono (by decide)) tk (a_cons (ev 3) (a_cons (ev 8) a_nil))))
      (b_cons (s_if ((w_or (t_cmp o_ne (ev 10) (ev 9)) (w_or1 (t_val (e_isi (ev 10) T.m_isinstance T.m_bool boot_bool))))).t (b_one (s_ret e_bl)) b_nil)
      (b_cons (s_set 11 sc.nd (e_call h__law_shown (hr.mono (by decide)) tk (a_cons (e_callTy c_tuple T.m_tuple boot_tuple (a_cons (ev 5) a_nil)) (a_cons (ev 2) a_nil))))
      (b_cons (s_if ((w_or (t_cmp (o_neD hu) (e_meth0 T.cl_View T.me_View_shown h_View_shown (hr.mono (by decide)) tk (ev 3)) (ev 11)) (w_or1 (t_cmp o_ne (e_callB (c_lenO T.me_View___len__ h_View___len__ (hr.mono (by decide))) T.m_len boot_len (a_cons (ev 3) a_nil)) (e_callB c_len T.m_len boot_len (a_cons (ev 5) a_nil)))))).t (b_one (s_ret e_bl)) b_nil)
      (b_one (s_if ((w_or (t_cmp o_ne (e_cmp (o_eqO T.me_View___eq__ T.io_View.tt h_View___eq__ (hr.mono (by decide))) (ev 3) (ev 4)) (e_cmp (o_eqD hu) (ev 11) (e_call h__law_shown (hr.mono (by decide)) tk (a_cons (e_tup a_nil) (a_cons (ev 2) a_nil))))) (w_or1 (t_cmp (o_eqO T.me_View___eq__ T.io_View.tt h_View___eq__ (hr.mono (by decide))) (ev 3) (ev 11))))).t (b_one (s_ret e_bl)) b_nil))))))))))))
      (b_cons (s_while (passes_of rfl) (t_cmp (o_neD hu) (ev 5) (e_lst a_nil)) (b_cons (s_expr (e_mt0 PySem.F.slot_list_pop PySem.F.type_list_pop m_pop (ev 5)))
      (b_one (s_if ((w_or (t_cmp o_notN (e_meth0 T.cl_View T.me_View_undo h_View_undo (hr.mono (by decide)) tk (ev 3)) e_non) (w_or1 (t_cmp (o_neD hu) (e_meth0 T.cl_View T.me_View_shown h_View_shown (hr.mono (by decide)) tk (ev 3)) (e_call h__law_shown (hr.mono (by decide)) tk (a_cons (e_callTy c_tuple T.m_tuple boot_tuple (a_cons (ev 5) a_nil)) (a_cons (ev 2) a_nil))))))).t (b_one (s_ret e_bl)) b_nil))))
      (b_cons (s_if (t_cmp o_ne (e_call h__law_did (hr.mono (by decide)) tk (a_cons (ev 3) (a_cons (e_tup (a_cons e_str a_nil)) a_nil))) e_str) (b_one (s_ret e_bl)) b_nil)
      (b_one (s_ret (e_and (e_cmp (o_eqO T.me_View___eq__ T.io_View.tt h_View___eq__ (hr.mono (by decide))) (ev 3) (ev 4)) (e_one (e_not (e_cmp (o_eqO T.me_View___eq__ T.io_View.tt h_View___eq__ (hr.mono (by decide))) (ev 3) (e_make T.mk_View h_View___init__ (hr.mono (by decide)) T.g_View (a_cons (e_if (t_cmp o_lt (ev 2) e_int) (e_op o_add (ev 2) e_int) (e_op o_sub (ev 2) e_int)) a_nil))))))))))))))
end
/-! ### the head -/
def loose : List PySem.Str := "ChainError" :: "InvalidSlice" :: "InvalidLength" :: "InvalidNumber" :: "TooMany" :: "NothingToUndo" :: "BOUND" :: "STEP" :: "FAR" :: "is_integer" :: "is_bound" :: "is_step" :: "is_slice" :: "require_length" :: "moved" :: "ends" :: "applied" :: "cleaned" :: "MOST" :: "View" :: "_law_bag" :: "_law_take" :: "_law_of" :: "_law_bound" :: "_law_slice" :: "_law_chain" :: "_law_part" :: "_law_shown" :: "_law_weights" :: "_law_did" :: "_law_action" :: "_law_good" :: "_law_due" :: []
abbrev R : PySem.W.OpenRow := PySem.W.OpenLaw.row PySem.Challenge.rw_slicechains_k19_whole_a_view_step_by_ste
abbrev hk : PySem.W.Hook := hookE 5 fa fn ex
def ob (s : PySem.W.SharedT) : He.AlD × Bool := obsE 5 fa fn ex (HandSHeadRun.getT s)
theorem ob_eq (s : PySem.W.SharedT) : ob s = hk.obs s.abs := obsE_eq (HandSHeadRun.getT_eq s)
theorem run (w : World) : HandSHeadRun.RunEq R (PySem.W.view R.prog [38]) hk ob 12000 loose w := by
  intro os
  kernel_rfl
end Sc
open PySem PySem.W PySem.Calls PyProof.Rows
theorem PySem.Challenge.cw_slicechains_k19_whole_a_view_step_by_ste_holds : PySem.Challenge.rw_slicechains_k19_whole_a_view_step_by_ste.Holds := by
  w_on; o_law
  refine HandSHeadRun.head_any (r := OpenLaw.row PySem.Challenge.rw_slicechains_k19_whole_a_view_step_by_ste) (q := view (OpenLaw.row PySem.Challenge.rw_slicechains_k19_whole_a_view_step_by_ste).prog [38]) (H := Sc.hk) (ob := Sc.ob) (M := 12000) (loose := Sc.loose) (d := HandSHeadRun.topDef (OpenLaw.row PySem.Challenge.rw_slicechains_k19_whole_a_view_step_by_ste).prog 38) (kwd := []) Sc.ob_eq
    (by kernel_rfl) (fun s => by kernel_rfl) Sc.run (by kernel_rfl) (by kernel_rfl) (by kernel_rfl) (by rfl) (by first | assumption | decide +kernel) (by decide +kernel) ⟨rfl, rfl, rfl, rfl, rfl, by decide +kernel⟩ ?hw ?hc
  case hw => w_witness2
  case hc =>
    refine Sc.end_walk (l := PySem.Challenge.rw_slicechains_k19_whole_a_view_step_by_ste) (k := 6) rfl (by decide) ⟨rfl, by decide, by decide⟩ ?F
    intro w mg fa h Y G hmg0
    obtain ⟨K, KX, c, cx⟩ := Y
    have hmg : mg ("law" : PySem.Str) = some (.ref fa) := by
      have e : (HandSHeadRun.topDef (OpenLaw.row PySem.Challenge.rw_slicechains_k19_whole_a_view_step_by_ste).prog 38).name = ("law" : PySem.Str) := by kernel_rfl
      rw [← e]
      exact hmg0
    have T := Sc.env_of KX G c cx
    have T := T
    obtain ⟨fd, F⟩ := T.f_law
    have e2 := hmg.symm.trans T.g_law
    cases e2
    exact ⟨K, fd, KX, fun s v => (L2.FunD.bindsA (ps := ["_law_script"]) F fun _ _ _ _ _ _ us hl => match us, hl with | [_], _ => rfl) s [v] rfl, fun base _ _ => Sc.ok_law T F⟩

