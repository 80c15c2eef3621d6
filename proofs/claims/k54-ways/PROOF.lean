import PyProof.Rows.All
import Wide.All
import OpenK.AllK
import Wide.FinOn
import HandS.ForMost
import HandS.ForExc
import HandS.Walk
import HandS.TupAny
import HandS.Wide
import HandS.RevRange
import HandS.Deep
import HandS.SortInts
import HandS.DictComp
import HandS.More
import HandS.Conv
import HandS.Property
import HandS.ExcInit
import HandS.ExcField
import HandS.Strs
import HandS.RaiseMore
import HandS.IsInst
import PySem.Challenge.RW_sworncode_k54_too_many_ways
set_option Elab.async false
set_option maxRecDepth 100000
set_option linter.all false
/-! VH: values without addresses over HandS. D: a deep value; F: the frozen part of the heap H; a Slot: what a name holds. -/
namespace VH
open PySem L2

/-- a deep value -/
inductive D where
  | non | bl (b : Bool) | int (i : Int) | str (x : Str) | ref (a : Addr) | ty (n : String)
  | tup (ds : List D) | lst (ds : List D) | fls (ns : List Int) | obj (C : Addr) (fs : List (Str × D)) | dk (kvs : List (Key × D))

/-- what an option gives -/
def gOpt {α : Type} : Option α → (α → Prop) → Prop
  | some a, Q => Q a
  | none, _ => False
theorem gOpt_ex {α : Type} {o : Option α} {Q : α → Prop} (h : gOpt o Q) : ∃ a, o = some a ∧ Q a := by
  cases o with
  | none => exact h.elim
  | some a => exact ⟨a, rfl, h⟩
mutual
/-- the value v is d, by the frozen heap F -/
inductive Rv (K : PySem.W.Frag) (F : Hp) : V → D → Prop
  | non : Rv K F .non .non
  | bl (b : Bool) : Rv K F (.bl b) (.bl b)
  | int (i : Int) : Rv K F (.int i) (.int i)
  | str (x : Str) : Rv K F (.str x) (.str x)
  | ref (a : Addr) : Rv K F (.ref a) (.ref a)
  | ty (n : String) : Rv K F (.ty n) (.ty n)
  | tup {a : Addr} {xs : List V} {ds : List D} : SqT K F a xs → RvA K F xs ds → Rv K F (.ref a) (.tup ds)
  | lst {a : Addr} {xs : List V} {ds : List D} : F a = some (.lst xs) → RvA K F xs ds → Rv K F (.ref a) (.lst ds)
  | fls {a : Addr} {ns : List Int} : SqL K F a (ns.map V.int) → Rv K F (.ref a) (.fls ns)
  | obj {a C dx : Addr} {fs : List (Str × V)} {gs : List (Str × D)} : F a = some (.ins C dx fs) → fs.map (·.1) = gs.map (·.1) → RvA K F (fs.map (·.2)) (gs.map (·.2)) → Rv K F (.ref a) (.obj C gs)
  | dk {a : Addr} {od : Obj} {fs : List (Key × V)} {gs : List (Key × D)} : F a = some (.frz od (.dK fs)) → fs.map (·.1) = gs.map (·.1) → RvA K F (fs.map (·.2)) (gs.map (·.2)) → Rv K F (.ref a) (.dk gs)
inductive RvA (K : PySem.W.Frag) (F : Hp) : List V → List D → Prop
  | nil : RvA K F [] []
  | cons {v : V} {vs : List V} {d : D} {ds : List D} : Rv K F v d → RvA K F vs ds → RvA K F (v :: vs) (d :: ds)
end

theorem sqT_mono {K : PySem.W.Frag} {F F' : Hp} {a : Addr} {xs : List V} (e : Same F F') (h : SqT K F a xs) : SqT K F' a xs := by
  rcases h with (h | ⟨o, h⟩) | h
  · exact .inl (.inl (e _ _ h))
  · exact .inl (.inr ⟨o, e _ _ h⟩)
  · exact .inr h

mutual
theorem Rv.mono {K : PySem.W.Frag} {F F' : Hp} (e : Same F F') : ∀ {v : V} {d : D}, Rv K F v d → Rv K F' v d
  | _, _, .non => .non
  | _, _, .bl b => .bl b
  | _, _, .int i => .int i
  | _, _, .str x => .str x
  | _, _, .ref a => .ref a
  | _, _, .ty n => .ty n
  | _, _, .tup h r => .tup (sqT_mono e h) (RvA.mono e r)
  | _, _, .lst h r => .lst (e _ _ h) (RvA.mono e r)
  | _, _, .fls h => .fls (e.seq h)
  | _, _, .obj h k r => .obj (e _ _ h) k (RvA.mono e r)
  | _, _, .dk h k r => .dk (e _ _ h) k (RvA.mono e r)
theorem RvA.mono {K : PySem.W.Frag} {F F' : Hp} (e : Same F F') : ∀ {vs : List V} {ds : List D}, RvA K F vs ds → RvA K F' vs ds
  | _, _, .nil => .nil
  | _, _, .cons h r => .cons (Rv.mono e h) (RvA.mono e r)
end

section
variable {K : PySem.W.Frag} {F : Hp}
theorem RvA.length : ∀ {vs : List V} {ds : List D}, RvA K F vs ds → vs.length = ds.length
  | _, _, .nil => rfl
  | _, _, .cons _ r => by simp [RvA.length r]
theorem RvA.get : ∀ {vs : List V} {ds : List D} {i : Nat} {d : D}, RvA K F vs ds → ds[i]? = some d → ∃ v, vs[i]? = some v ∧ Rv K F v d
  | _, _, _, _, .nil, e => by simp at e
  | _, _, 0, _, .cons h _, e => by simp at e; subst e; exact ⟨_, rfl, h⟩
  | _, _, i + 1, d, .cons _ r, e => by
    obtain ⟨v, h1, h2⟩ := RvA.get (i := i) (d := d) r (by simpa using e)
    exact ⟨v, by simpa using h1, h2⟩
theorem RvA.getV : ∀ {vs : List V} {ds : List D} {i : Nat} {v : V}, RvA K F vs ds → vs[i]? = some v → ∃ d, ds[i]? = some d ∧ Rv K F v d
  | _, _, _, _, .nil, e => by simp at e
  | _, _, 0, _, .cons h _, e => by simp at e; subst e; exact ⟨_, rfl, h⟩
  | _, _, i + 1, v, .cons _ r, e => by
    obtain ⟨d, h1, h2⟩ := RvA.getV (i := i) (v := v) r (by simpa using e)
    exact ⟨d, by simpa using h1, h2⟩
theorem RvA.append : ∀ {vs ws : List V} {ds es : List D}, RvA K F vs ds → RvA K F ws es → RvA K F (vs ++ ws) (ds ++ es)
  | _, _, _, _, .nil, s => s
  | _, _, _, _, .cons h r, s => .cons h (RvA.append r s)
theorem RvA.take : ∀ {vs : List V} {ds : List D} (n : Nat), RvA K F vs ds → RvA K F (vs.take n) (ds.take n)
  | _, _, 0, _ => .nil
  | _, _, _ + 1, .nil => .nil
  | _, _, n + 1, .cons h r => .cons h (RvA.take n r)
theorem RvA.drop : ∀ {vs : List V} {ds : List D} (n : Nat), RvA K F vs ds → RvA K F (vs.drop n) (ds.drop n)
  | _, _, 0, r => r
  | _, _, _ + 1, .nil => .nil
  | _, _, n + 1, .cons _ r => RvA.drop n r
theorem RvA.set {v : V} {d : D} (h : Rv K F v d) : ∀ {vs : List V} {ds : List D} (i : Nat), RvA K F vs ds → RvA K F (vs.set i v) (ds.set i d)
  | _, _, _, .nil => .nil
  | _, _, 0, .cons _ r => .cons h r
  | _, _, i + 1, .cons q r => .cons q (RvA.set h i r)
theorem RvA.reverse : ∀ {vs : List V} {ds : List D}, RvA K F vs ds → RvA K F vs.reverse ds.reverse
  | _, _, .nil => .nil
  | _, _, .cons h r => by
    rw [List.reverse_cons, List.reverse_cons]
    exact (RvA.reverse r).append (.cons h .nil)
theorem RvA.dropLast {vs : List V} {ds : List D} (r : RvA K F vs ds) : RvA K F vs.dropLast ds.dropLast := by
  rw [List.dropLast_eq_take, List.dropLast_eq_take, r.length]
  exact r.take _
end

/-- a resource: what holds of the objects at A, which calls may change -/
structure Res where
  J : Hp → Prop
  A : Addr → Prop
  loc : ∀ H H', (∀ a, A a → H' a = H a) → J H → J H'
  trk : ∀ H a, J H → A a → H a ≠ none
def Res.no : Res := ⟨fun _ => True, fun _ => False, fun _ _ _ h => h, fun _ _ _ h => h.elim⟩

structure Ok (R : Res) (F H : Hp) : Prop where
  ex : Same F H
  j : R.J H
  dis : ∀ a, R.A a → F a = none
/-- from (F, H) to (F', H'): nothing tracked is changed but what A holds; nothing of others is frozen -/
structure Stp (R : Res) (F H F' H' : Hp) : Prop where
  ex : Same F F'
  keep : ∀ p o, H p = some o → ¬ R.A p → H' p = some o
  own : ∀ p, H p ≠ none → F p = none → F' p = none
  dom : ∀ p, H p ≠ none → H' p ≠ none

section
variable {R : Res} {F H F' H' F2 H2 : Hp}
theorem Stp.refl : Stp R F H F H := ⟨.refl _, fun _ _ h _ => h, fun _ _ h => h, fun _ h => h⟩
theorem Stp.trans (a : Stp R F H F' H') (b : Stp R F' H' F2 H2) : Stp R F H F2 H2 :=
  ⟨a.ex.trans b.ex, fun p o h n => b.keep p o (a.keep p o h n) n, fun p h n => b.own p (a.dom p h) (a.own p h n), fun p h => b.dom p (a.dom p h)⟩
theorem Stp.fresh (a : Stp R F H F' H') {p : Addr} (h : H' p = none) : H p = none := by
  cases e : H p with
  | none => rfl
  | some o => exact absurd h (a.dom p (by rw [e]; simp))
theorem Ok.notA (k : Ok R F H) {p : Addr} (h : H p = none) : ¬ R.A p := fun a => R.trk H p k.j a h
theorem Ok.notF (k : Ok R F H) {p : Addr} (h : H p = none) : F p = none := by
  cases e : F p with
  | none => rfl
  | some o => rw [k.ex p o e] at h; cases h
theorem Ok.neA (k : Ok R F H) {p a : Addr} (h : H p = none) (ha : R.A a) : a ≠ p := fun z => k.notA h (by rw [← z]; exact ha)
theorem Ok.frz (k : Ok R F H) {p : Addr} {o : HO} (h : F p = some o) : ¬ R.A p := fun a => by
  rw [k.dis p a] at h; cases h
/-- a new object, frozen at once -/
theorem Ok.newF (k : Ok R F H) {p : Addr} {o : HO} (h : H p = none) : Ok R (upd F p o) (upd H p o) := by
  refine ⟨fun b u e => ?_, R.loc H _ (fun a ha => upd_ne (k.neA h ha)) k.j, fun a ha => ?_⟩
  · by_cases q : b = p
    · subst q; rw [upd_same] at e ⊢; exact e
    · rw [upd_ne q] at e ⊢; exact k.ex b u e
  · rw [upd_ne (k.neA h ha)]; exact k.dis a ha
theorem Ok.newS (k : Ok R F H) {p : Addr} {o : HO} (h : H p = none) : Stp R F H (upd F p o) (upd H p o) := by
  have ne : ∀ q, H q ≠ none → q ≠ p := fun q e z => by subst z; exact e h
  refine ⟨fun b u e => ?_, fun q u e _ => ?_, fun q e n => ?_, fun q e => ?_⟩
  · rw [upd_ne fun z => by subst z; rw [k.notF h] at e; cases e]; exact e
  · rw [upd_ne (ne q (by rw [e]; simp))]; exact e
  · rw [upd_ne (ne q e)]; exact n
  · rw [upd_ne (ne q e)]; exact e
/-- a new object, not frozen -/
theorem Ok.newO (k : Ok R F H) {p : Addr} {o : HO} (h : H p = none) : Ok R F (upd H p o) := by
  refine ⟨fun b u e => ?_, R.loc H _ (fun a ha => upd_ne (k.neA h ha)) k.j, k.dis⟩
  rw [upd_ne fun z => by subst z; rw [k.notF h] at e; cases e]
  exact k.ex b u e
theorem Ok.newT (k : Ok R F H) {p : Addr} {o : HO} (h : H p = none) : Stp R F H F (upd H p o) := by
  have ne : ∀ q, H q ≠ none → q ≠ p := fun q e z => by subst z; exact e h
  refine ⟨.refl _, fun q u e _ => ?_, fun q e n => n, fun q e => ?_⟩
  · rw [upd_ne (ne q (by rw [e]; simp))]; exact e
  · rw [upd_ne (ne q e)]; exact e
/-- an object that stands unfrozen is frozen -/
theorem Ok.freeze (k : Ok R F H) {p : Addr} {o : HO} (h : H p = some o) (n : F p = none) (na : ¬ R.A p) : Ok R (upd F p o) H := by
  refine ⟨fun b u e => ?_, k.j, fun a ha => ?_⟩
  · by_cases q : b = p
    · subst q; rw [upd_same] at e; rw [← e]; exact h
    · rw [upd_ne q] at e; exact k.ex b u e
  · rw [upd_ne fun z => na (by rw [← z]; exact ha)]; exact k.dis a ha
theorem Same.updF {p : Addr} {o : HO} (n : F p = none) : Same F (upd F p o) := fun b u e => by
  rw [upd_ne fun z => by subst z; rw [n] at e; cases e]; exact e
/-- an object of our own (not of H, not frozen) is changed -/
theorem Ok.mut (k : Ok R F H) {p : Addr} {o : HO} (n : F p = none) (na : ¬ R.A p) : Ok R F (upd H p o) := by
  refine ⟨fun b u e => ?_, R.loc H _ (fun a ha => upd_ne fun z => na (by rw [← z]; exact ha)) k.j, k.dis⟩
  rw [upd_ne fun z => by subst z; rw [n] at e; cases e]
  exact k.ex b u e
theorem Stp.mut (s : Stp R F H F' H') {p : Addr} {o : HO} (n : H p = none) : Stp R F H F' (upd H' p o) := by
  have ne : ∀ q, H q ≠ none → q ≠ p := fun q e z => by subst z; exact e n
  refine ⟨s.ex, fun q u e a => ?_, s.own, fun q e => ?_⟩
  · rw [upd_ne (ne q (by rw [e]; simp))]; exact s.keep q u e a
  · rw [upd_ne (ne q e)]; exact s.dom q e
theorem Stp.frz (s : Stp R F H F' H') {p : Addr} {o : HO} (n : H p = none) (f : F' p = none) : Stp R F H (upd F' p o) H' := by
  have ne : ∀ q, H q ≠ none → q ≠ p := fun q e z => by subst z; exact e n
  exact ⟨s.ex.trans (Same.updF f), s.keep, fun q e m => by rw [upd_ne (ne q e)]; exact s.own q e m, s.dom⟩
end

/-- what an expression gives: a frozen value; a new list, a new dict; a list, a dict of a name's own, read -/
inductive Rs where
  | sh (d : D) | nw (ds : List D) | br (ds : List D) | nd (kvs : List (Key × D)) | bd (kvs : List (Key × D))
@[reducible] def Rs.val : Rs → D
  | .sh d => d
  | .nw ds => .lst ds
  | .br ds => .lst ds
  | .nd kvs => .dk kvs
  | .bd kvs => .dk kvs
def Rr (R : Res) (K : PySem.W.Frag) (H F' H' : Hp) (v : V) : Rs → Prop
  | .sh d => Rv K F' v d
  | .nw ds => ∃ p xs, v = .ref p ∧ H p = none ∧ H' p = some (.lst xs) ∧ F' p = none ∧ ¬ R.A p ∧ RvA K F' xs ds
  | .br ds => ∃ p xs, v = .ref p ∧ H' p = some (.lst xs) ∧ ¬ R.A p ∧ RvA K F' xs ds
  | .nd gs => ∃ p fs, v = .ref p ∧ H p = none ∧ H' p = some (.dK fs) ∧ F' p = none ∧ ¬ R.A p ∧ fs.map (·.1) = gs.map (·.1) ∧ RvA K F' (fs.map (·.2)) (gs.map (·.2))
  | .bd gs => ∃ p fs, v = .ref p ∧ H' p = some (.dK fs) ∧ ¬ R.A p ∧ fs.map (·.1) = gs.map (·.1) ∧ RvA K F' (fs.map (·.2)) (gs.map (·.2))
/-- the value v is d, its top perhaps not frozen -/
def RvT (R : Res) (K : PySem.W.Frag) (F H : Hp) (v : V) (d : D) : Prop :=
  Rv K F v d ∨ (∃ p xs ds, v = .ref p ∧ d = .lst ds ∧ H p = some (.lst xs) ∧ ¬ R.A p ∧ RvA K F xs ds) ∨
    ∃ p fs gs, v = .ref p ∧ d = .dk gs ∧ H p = some (.dK fs) ∧ ¬ R.A p ∧ fs.map (·.1) = gs.map (·.1) ∧ RvA K F (fs.map (·.2)) (gs.map (·.2))
section
variable {R : Res} {K : PySem.W.Frag} {F H F' H' F2 H2 : Hp} {v : V} {d : D} {r : Rs}
theorem Rr.top (h : Rr R K H F' H' v r) : RvT R K F' H' v r.val := by
  cases r with
  | sh d => exact .inl h
  | nw ds => obtain ⟨p, xs, h1, h2, h3, h4, h5, h6⟩ := h; exact .inr (.inl ⟨p, xs, ds, h1, rfl, h3, h5, h6⟩)
  | br ds => obtain ⟨p, xs, h1, h3, h5, h6⟩ := h; exact .inr (.inl ⟨p, xs, ds, h1, rfl, h3, h5, h6⟩)
  | nd gs => obtain ⟨p, fs, h1, h2, h3, h4, h5, h6, h7⟩ := h; exact .inr (.inr ⟨p, fs, gs, h1, rfl, h3, h5, h6, h7⟩)
  | bd gs => obtain ⟨p, fs, h1, h3, h5, h6, h7⟩ := h; exact .inr (.inr ⟨p, fs, gs, h1, rfl, h3, h5, h6, h7⟩)
theorem Rr.back (s : Stp R F H F' H') (h : Rr R K H' F2 H2 v r) : Rr R K H F2 H2 v r := by
  cases r with
  | sh d => exact h
  | nw ds => obtain ⟨p, xs, h1, h2, h3, h4, h5, h6⟩ := h; exact ⟨p, xs, h1, s.fresh h2, h3, h4, h5, h6⟩
  | br ds => exact h
  | nd gs => obtain ⟨p, fs, h1, h2, h3, h4, h5, h6, h7⟩ := h; exact ⟨p, fs, h1, s.fresh h2, h3, h4, h5, h6, h7⟩
  | bd gs => exact h
theorem RvT.step (s : Stp R F H F' H') (h : RvT R K F H v d) : RvT R K F' H' v d := by
  rcases h with h | ⟨p, xs, ds, h1, h2, h3, h4, h5⟩ | ⟨p, fs, gs, h1, h2, h3, h4, h5, h6⟩
  · exact .inl (h.mono s.ex)
  · exact .inr (.inl ⟨p, xs, ds, h1, h2, s.keep _ _ h3 h4, h4, h5.mono s.ex⟩)
  · exact .inr (.inr ⟨p, fs, gs, h1, h2, s.keep _ _ h3 h4, h4, h5, h6.mono s.ex⟩)
theorem top_lst {ds : List D} (k : Ok R F H) (h : RvT R K F H v (.lst ds)) : ∃ p xs, v = .ref p ∧ H p = some (.lst xs) ∧ ¬ R.A p ∧ RvA K F xs ds := by
  rcases h with h | ⟨p, xs, ds', h1, h2, h3, h4, h5⟩ | ⟨p, fs, gs, h1, h2, h3, h4, h5, h6⟩
  · cases h with
    | lst h r => exact ⟨_, _, rfl, k.ex _ _ h, k.frz h, r⟩
  · cases h2; exact ⟨p, xs, h1, h3, h4, h5⟩
  · cases h2
theorem top_dk {gs : List (Key × D)} (k : Ok R F H) (h : RvT R K F H v (.dk gs)) : ∃ p fs, v = .ref p ∧ Rd H p (.dK fs) ∧ ¬ R.A p ∧ fs.map (·.1) = gs.map (·.1) ∧ RvA K F (fs.map (·.2)) (gs.map (·.2)) := by
  rcases h with h | ⟨p, xs, ds', h1, h2, h3, h4, h5⟩ | ⟨p, fs, gs, h1, h2, h3, h4, h5, h6⟩
  · cases h with
    | dk h r q => exact ⟨_, _, rfl, .inr ⟨_, k.ex _ _ h⟩, k.frz h, r, q⟩
  · cases h2
  · cases h2; exact ⟨p, fs, h1, .inl h3, h4, h5, h6⟩
theorem top_tup {ds : List D} (k : Ok R F H) (h : RvT R K F H v (.tup ds)) : ∃ p xs, v = .ref p ∧ SqT K H p xs ∧ RvA K F xs ds := by
  rcases h with h | ⟨p, xs, ds', h1, h2, h3, h4, h5⟩ | ⟨p, fs, gs, h1, h2, h3, h4, h5, h6⟩
  · cases h with
    | tup h r => exact ⟨_, _, rfl, sqT_mono k.ex h, r⟩
  · cases h2
  · cases h2
theorem top_obj {C : Addr} {gs : List (Str × D)} (k : Ok R F H) (h : RvT R K F H v (.obj C gs)) : ∃ p dx fs, v = .ref p ∧ F p = some (.ins C dx fs) ∧ H p = some (.ins C dx fs) ∧ fs.map (·.1) = gs.map (·.1) ∧ RvA K F (fs.map (·.2)) (gs.map (·.2)) := by
  rcases h with h | ⟨p, xs, ds', h1, h2, h3, h4, h5⟩ | ⟨p, fs, gs, h1, h2, h3, h4, h5, h6⟩
  · cases h with
    | obj h r q => exact ⟨_, _, _, rfl, h, k.ex _ _ h, r, q⟩
  · cases h2
  · cases h2
theorem top_int {i : Int} (h : RvT R K F H v (.int i)) : v = .int i := by
  rcases h with h | ⟨p, xs, ds', h1, h2, h3, h4, h5⟩ | ⟨p, fs, gs, h1, h2, h3, h4, h5, h6⟩
  · cases h; rfl
  · cases h2
  · cases h2
theorem top_bl {i : Bool} (h : RvT R K F H v (.bl i)) : v = .bl i := by
  rcases h with h | ⟨p, xs, ds', h1, h2, h3, h4, h5⟩ | ⟨p, fs, gs, h1, h2, h3, h4, h5, h6⟩
  · cases h; rfl
  · cases h2
  · cases h2
theorem top_str {i : Str} (h : RvT R K F H v (.str i)) : v = .str i := by
  rcases h with h | ⟨p, xs, ds', h1, h2, h3, h4, h5⟩ | ⟨p, fs, gs, h1, h2, h3, h4, h5, h6⟩
  · cases h; rfl
  · cases h2
  · cases h2
theorem top_non (h : RvT R K F H v .non) : v = .non := by
  rcases h with h | ⟨p, xs, ds', h1, h2, h3, h4, h5⟩ | ⟨p, fs, gs, h1, h2, h3, h4, h5, h6⟩
  · cases h; rfl
  · cases h2
  · cases h2
theorem top_ty {n : String} (h : RvT R K F H v (.ty n)) : v = .ty n := by
  rcases h with h | ⟨p, xs, ds', h1, h2, h3, h4, h5⟩ | ⟨p, fs, gs, h1, h2, h3, h4, h5, h6⟩
  · cases h; rfl
  · cases h2
  · cases h2
theorem top_ref {a : Addr} (h : RvT R K F H v (.ref a)) : v = .ref a := by
  rcases h with h | ⟨p, xs, ds', h1, h2, h3, h4, h5⟩ | ⟨p, fs, gs, h1, h2, h3, h4, h5, h6⟩
  · cases h; rfl
  · cases h2
  · cases h2
/-- freezing what is new -/
@[reducible] def fzW : Rs → (D → Prop) → Prop
  | .sh d, Q => Q d
  | .nw ds, Q => Q (.lst ds)
  | .nd _, _ => False
  | .br _, _ => False
  | .bd _, _ => False
theorem Rr.fz {Q : D → Prop} (s : Stp R F H F' H') (k : Ok R F' H') (h : Rr R K H F' H' v r) (q : fzW r Q) : ∃ d F2, Stp R F H F2 H' ∧ Ok R F2 H' ∧ Rv K F2 v d ∧ Q d := by
  cases r with
  | sh d => exact ⟨d, F', s, k, h, q⟩
  | nw ds =>
    obtain ⟨p, xs, rfl, h2, h3, h4, h5, h6⟩ := h
    exact ⟨.lst ds, _, s.frz h2 h4, k.freeze h3 h4 h5, .lst upd_same (h6.mono (Same.updF h4)), q⟩
  | br ds => exact q.elim
  | nd gs => exact q.elim
  | bd gs => exact q.elim
end

/-- what a name holds: nothing known; a frozen value; a list, a dict, a new instance of its own -/
inductive Slot where
  | un | sh (d : D) | ow (ds : List D) | od (kvs : List (Key × D)) | oi (C a : Addr) (gs : List (Str × D))
@[reducible] def Slot.own : Slot → Bool
  | .ow _ => true
  | .od _ => true
  | .oi _ _ _ => true
  | _ => false
abbrev Env := List Slot
def get : Env → Nat → Slot
  | [], _ => .un
  | s :: _, 0 => s
  | _ :: r, i + 1 => get r i
def put : Env → Nat → Slot → Env
  | [], _, _ => []
  | _ :: r, 0, s => s :: r
  | t :: r, i + 1, s => t :: put r i s
theorem put_length : ∀ (e : Env) (i : Nat) (s : Slot), (put e i s).length = e.length
  | [], _, _ => rfl
  | _ :: _, 0, _ => rfl
  | _ :: r, i + 1, s => by simp [put, put_length r i s]
theorem get_put_same : ∀ {e : Env} {i : Nat} {s : Slot}, i < e.length → get (put e i s) i = s
  | [], _, _, h => absurd h (Nat.not_lt_zero _)
  | _ :: _, 0, _, _ => rfl
  | _ :: r, i + 1, s, h => get_put_same (e := r) (i := i) (s := s) (Nat.lt_of_succ_lt_succ h)
theorem get_put_ne : ∀ {e : Env} {i j : Nat} {s : Slot}, j ≠ i → get (put e i s) j = get e j
  | [], _, _, _, _ => rfl
  | _ :: _, 0, 0, _, h => absurd rfl h
  | _ :: _, 0, _ + 1, _, _ => rfl
  | _ :: _, _ + 1, 0, _, _ => rfl
  | _ :: r, i + 1, j + 1, s, h => get_put_ne (e := r) (i := i) (j := j) (s := s) fun z => h (by rw [z])
theorem get_out : ∀ {e : Env} {i : Nat}, e.length ≤ i → get e i = .un
  | [], _, _ => rfl
  | _ :: _, 0, h => absurd h (by simp)
  | _ :: r, i + 1, h => get_out (e := r) (i := i) (Nat.le_of_succ_le_succ h)
theorem put_out : ∀ {e : Env} {i : Nat} {s : Slot}, e.length ≤ i → put e i s = e
  | [], _, _, _ => rfl
  | _ :: _, 0, _, h => absurd h (by simp)
  | t :: r, i + 1, s, h => by
    show t :: put r i s = t :: r
    rw [put_out (e := r) (i := i) (s := s) (Nat.le_of_succ_le_succ h)]

def SlotOk (R : Res) (K : PySem.W.Frag) (H0 F H : Hp) (x : Option (Option V)) : Slot → Prop
  | .un => True
  | .sh d => ∃ v, x = some (some v) ∧ Rv K F v d
  | .ow ds => ∃ p xs, x = some (some (.ref p)) ∧ H0 p = none ∧ F p = none ∧ ¬ R.A p ∧ H p = some (.lst xs) ∧ RvA K F xs ds
  | .od gs => ∃ p fs, x = some (some (.ref p)) ∧ H0 p = none ∧ F p = none ∧ ¬ R.A p ∧ H p = some (.dK fs) ∧ fs.map (·.1) = gs.map (·.1) ∧ RvA K F (fs.map (·.2)) (gs.map (·.2))
  | .oi C a gs => ∃ p dx fs, (x = some (some (.ref p)) ∧ p = a) ∧ H0 p = none ∧ F p = none ∧ ¬ R.A p ∧ H p = some (.ins C dx fs) ∧ fs.map (·.1) = gs.map (·.1) ∧ RvA K F (fs.map (·.2)) (gs.map (·.2))

/-- the names' values; (F0, H0): where the def began -/
structure Sta (R : Res) (K : PySem.W.Frag) (F0 H0 : Hp) (env : Env) (σ : L2.St) (F H : Hp) : Prop where
  ok : Ok R F H
  stp : Stp R F0 H0 F H
  len : env.length = σ.length
  sl : ∀ i, SlotOk R K H0 F H (σ[i]?) (get env i)
  inj : ∀ i j, (get env i).own = true → (get env j).own = true → σ[i]? = σ[j]? → i = j

section
variable {R : Res} {K : PySem.W.Frag} {F0 H0 F H F' H' : Hp} {env : Env} {σ : L2.St} {v : V} {d : D} {r : Rs} {x : Option (Option V)} {s : Slot}
theorem SlotOk.step (k : Stp R F H F' H') (h : SlotOk R K H0 F H x s) : SlotOk R K H0 F' H' x s := by
  cases s with
  | un => trivial
  | sh d => obtain ⟨v, h1, h2⟩ := h; exact ⟨v, h1, h2.mono k.ex⟩
  | ow ds => obtain ⟨p, xs, h1, h2, h3, h4, h5, h6⟩ := h; exact ⟨p, xs, h1, h2, k.own p (by rw [h5]; simp) h3, h4, k.keep _ _ h5 h4, h6.mono k.ex⟩
  | od gs => obtain ⟨p, xs, h1, h2, h3, h4, h5, h6, h7⟩ := h; exact ⟨p, xs, h1, h2, k.own p (by rw [h5]; simp) h3, h4, k.keep _ _ h5 h4, h6, h7.mono k.ex⟩
  | oi C a gs => obtain ⟨p, dx, xs, h1, h2, h3, h4, h5, h6, h7⟩ := h; exact ⟨p, dx, xs, h1, h2, k.own p (by rw [h5]; simp) h3, h4, k.keep _ _ h5 h4, h6, h7.mono k.ex⟩
theorem Sta.step (t : Sta R K F0 H0 env σ F H) (k : Stp R F H F' H') (o : Ok R F' H') : Sta R K F0 H0 env σ F' H' :=
  ⟨o, t.stp.trans k, t.len, fun i => (t.sl i).step k, t.inj⟩
/-- an own object of a slot: its address, fresh at the start -/
theorem SlotOk.addr (h : SlotOk R K H0 F H x s) (w : s.own = true) : ∃ p, x = some (some (.ref p)) ∧ H0 p = none ∧ F p = none ∧ ¬ R.A p ∧ H p ≠ none := by
  cases s with
  | un => cases w
  | sh d => cases w
  | ow ds => obtain ⟨p, xs, h1, h2, h3, h4, h5, h6⟩ := h; exact ⟨p, h1, h2, h3, h4, by rw [h5]; simp⟩
  | od gs => obtain ⟨p, xs, h1, h2, h3, h4, h5, h6⟩ := h; exact ⟨p, h1, h2, h3, h4, by rw [h5]; simp⟩
  | oi C a gs => obtain ⟨p, dx, xs, ⟨h1, _⟩, h2, h3, h4, h5, h6⟩ := h; exact ⟨p, h1, h2, h3, h4, by rw [h5]; simp⟩
/-- a name gets a value -/
theorem Sta.setG (t : Sta R K F0 H0 env σ F H) {i : Nat} (h : SlotOk R K H0 F H (some (some v)) s) (hi : s.own = true → ∀ j, j ≠ i → (get env j).own = true → σ[j]? ≠ some (some v)) : Sta R K F0 H0 (put env i s) (σ.set i (some v)) F H := by
  by_cases hl : i < env.length
  · have hl2 : i < σ.length := by rw [← t.len]; exact hl
    refine ⟨t.ok, t.stp, by rw [put_length, List.length_set]; exact t.len, fun j => ?_, fun j k h1 h2 e => ?_⟩
    · by_cases q : j = i
      · subst q; rw [get_put_same hl, List.getElem?_set_self hl2]; exact h
      · rw [get_put_ne q, List.getElem?_set_ne (Ne.symm q)]; exact t.sl j
    · by_cases q1 : j = i
      · subst q1
        by_cases q2 : k = j
        · exact q2.symm
        · rw [get_put_same hl] at h1
          rw [get_put_ne q2] at h2
          rw [List.getElem?_set_self hl2, List.getElem?_set_ne (Ne.symm q2)] at e
          exact absurd e.symm (hi h1 k q2 h2)
      · by_cases q2 : k = i
        · subst q2
          rw [get_put_same hl] at h2
          rw [get_put_ne q1] at h1
          rw [List.getElem?_set_self hl2, List.getElem?_set_ne (Ne.symm q1)] at e
          exact absurd e (hi h2 j q1 h1)
        · rw [get_put_ne q1] at h1
          rw [get_put_ne q2] at h2
          rw [List.getElem?_set_ne (Ne.symm q1), List.getElem?_set_ne (Ne.symm q2)] at e
          exact t.inj j k h1 h2 e
  · have hl' : env.length ≤ i := Nat.le_of_not_lt hl
    rw [put_out hl', List.set_eq_of_length_le (by rw [← t.len]; exact hl')]
    exact t
theorem Sta.setS (t : Sta R K F0 H0 env σ F H) {i : Nat} (h : Rv K F v d) : Sta R K F0 H0 (put env i (.sh d)) (σ.set i (some v)) F H :=
  t.setG ⟨v, rfl, h⟩ fun z => nomatch z
/-- what an assigned name holds -/
@[reducible] def slW : Rs → (Slot → Prop) → Prop
  | .sh d, Q => Q (.sh d)
  | .nw ds, Q => Q (.ow ds)
  | .nd kvs, Q => Q (.od kvs)
  | .br _, _ => False
  | .bd _, _ => False
theorem Sta.setR (t : Sta R K F0 H0 env σ F H) {i : Nat} {Q : Slot → Prop} (k : Stp R F H F' H') (o : Ok R F' H') (h : Rr R K H F' H' v r) (q : slW r Q) : ∃ s, Sta R K F0 H0 (put env i s) (σ.set i (some v)) F' H' ∧ Q s := by
  have t' := t.step k o
  have fr : ∀ (p : Addr), H p = none → ∀ j, j ≠ i → (get env j).own = true → σ[j]? ≠ some (some (.ref p)) := fun p hp j _ hj e => by
    obtain ⟨q, h1, _, _, _, h2⟩ := (t.sl j).addr hj
    rw [e] at h1
    cases h1
    exact h2 hp
  cases r with
  | sh d => exact ⟨.sh d, t'.setS h, q⟩
  | nw ds =>
    obtain ⟨p, xs, rfl, h2, h3, h4, h5, h6⟩ := h
    exact ⟨.ow ds, t'.setG ⟨p, xs, rfl, t.stp.fresh h2, h4, h5, h3, h6⟩ fun _ => fr p h2, q⟩
  | br ds => exact q.elim
  | nd gs =>
    obtain ⟨p, fs, rfl, h2, h3, h4, h5, h6, h7⟩ := h
    exact ⟨.od gs, t'.setG ⟨p, fs, rfl, t.stp.fresh h2, h4, h5, h3, h6, h7⟩ fun _ => fr p h2, q⟩
  | bd gs => exact q.elim
/-- an own object changes -/
theorem Sta.mutG (t : Sta R K F0 H0 env σ F H) {i : Nat} {p : Addr} {o : HO} {s : Slot} (w : (get env i).own = true) (e : σ[i]? = some (some (.ref p))) (w' : s.own = true)
    (h : SlotOk R K H0 F (upd H p o) (some (some (.ref p))) s) : Sta R K F0 H0 (put env i s) σ F (upd H p o) := by
  obtain ⟨p', h1, h2, h3, h4, h5⟩ := (t.sl i).addr w
  rw [e] at h1
  cases h1
  have hl2 : i < σ.length := (List.getElem?_eq_some_iff.mp e).1
  have hl : i < env.length := by rw [t.len]; exact hl2
  refine ⟨t.ok.mut h3 h4, t.stp.mut h2, by rw [put_length]; exact t.len, fun j => ?_, fun j k g1 g2 g => ?_⟩
  · by_cases q : j = i
    · subst q; rw [get_put_same hl, e]; exact h
    · rw [get_put_ne q]
      have z := t.sl j
      cases hs : get env j with
      | un => trivial
      | sh d => rw [hs] at z; exact z
      | ow ds =>
        rw [hs] at z
        obtain ⟨p2, xs, z1, z2, z3, z4, z5, z6⟩ := z
        refine ⟨p2, xs, z1, z2, z3, z4, ?_, z6⟩
        rw [upd_ne]
        · exact z5
        · rintro rfl
          exact q (t.inj j i (by rw [hs]) w (z1.trans e.symm))
      | od gs =>
        rw [hs] at z
        obtain ⟨p2, xs, z1, z2, z3, z4, z5, z6, z7⟩ := z
        refine ⟨p2, xs, z1, z2, z3, z4, ?_, z6, z7⟩
        rw [upd_ne]
        · exact z5
        · rintro rfl
          exact q (t.inj j i (by rw [hs]) w (z1.trans e.symm))
      | oi C a gs =>
        rw [hs] at z
        obtain ⟨p2, dx, xs, ⟨z1, za⟩, z2, z3, z4, z5, z6, z7⟩ := z
        refine ⟨p2, dx, xs, ⟨z1, za⟩, z2, z3, z4, ?_, z6, z7⟩
        rw [upd_ne]
        · exact z5
        · rintro rfl
          exact q (t.inj j i (by rw [hs]) w (z1.trans e.symm))
  · have same : ∀ m, (get (put env i s) m).own = true → (get env m).own = true := fun m hm => by
      by_cases q : m = i
      · subst q; exact w
      · rw [get_put_ne q] at hm; exact hm
    exact t.inj j k (same j g1) (same k g2) g
/-- freezing what a name holds -/
def frz (i : Nat) (env : Env) : Env := match get env i with
  | .ow ds => put env i (.sh (.lst ds))
  | .oi C _ gs => put env i (.sh (.obj C gs))
  | _ => env
theorem Sta.freezeG (t : Sta R K F0 H0 env σ F H) {i : Nat} {p : Addr} {o : HO} {d : D} (w : (get env i).own = true) (e : σ[i]? = some (some (.ref p))) (ho : H p = some o)
    (h : Rv K (upd F p o) (.ref p) d) : Sta R K F0 H0 (put env i (.sh d)) σ (upd F p o) H := by
  obtain ⟨p', h1, h2, h3, h4, h5⟩ := (t.sl i).addr w
  rw [e] at h1
  cases h1
  have hl2 : i < σ.length := (List.getElem?_eq_some_iff.mp e).1
  have hl : i < env.length := by rw [t.len]; exact hl2
  refine ⟨t.ok.freeze ho h3 h4, t.stp.frz h2 h3, by rw [put_length]; exact t.len, fun j => ?_, fun j k g1 g2 g => ?_⟩
  · by_cases q : j = i
    · subst q; rw [get_put_same hl, e]; exact ⟨_, rfl, h⟩
    · rw [get_put_ne q]
      have z := t.sl j
      cases hs : get env j with
      | un => trivial
      | sh d => rw [hs] at z; obtain ⟨v, z1, z2⟩ := z; exact ⟨v, z1, z2.mono (Same.updF h3)⟩
      | ow ds =>
        rw [hs] at z
        obtain ⟨p2, xs, z1, z2, z3, z4, z5, z6⟩ := z
        refine ⟨p2, xs, z1, z2, ?_, z4, z5, z6.mono (Same.updF h3)⟩
        rw [upd_ne]
        · exact z3
        · rintro rfl
          exact q (t.inj j i (by rw [hs]) w (z1.trans e.symm))
      | od gs =>
        rw [hs] at z
        obtain ⟨p2, xs, z1, z2, z3, z4, z5, z6, z7⟩ := z
        refine ⟨p2, xs, z1, z2, ?_, z4, z5, z6, z7.mono (Same.updF h3)⟩
        rw [upd_ne]
        · exact z3
        · rintro rfl
          exact q (t.inj j i (by rw [hs]) w (z1.trans e.symm))
      | oi C a gs =>
        rw [hs] at z
        obtain ⟨p2, dx, xs, ⟨z1, za⟩, z2, z3, z4, z5, z6, z7⟩ := z
        refine ⟨p2, dx, xs, ⟨z1, za⟩, z2, ?_, z4, z5, z6, z7.mono (Same.updF h3)⟩
        rw [upd_ne]
        · exact z3
        · rintro rfl
          exact q (t.inj j i (by rw [hs]) w (z1.trans e.symm))
  · have same : ∀ m, (get (put env i (.sh d)) m).own = true → (get env m).own = true := fun m hm => by
      by_cases q : m = i
      · subst q; exact w
      · rw [get_put_ne q] at hm; exact hm
    exact t.inj j k (same j g1) (same k g2) g
theorem Sta.frz (t : Sta R K F0 H0 env σ F H) (i : Nat) : ∃ F', Same F F' ∧ Sta R K F0 H0 (VH.frz i env) σ F' H := by
  have z := t.sl i
  unfold VH.frz
  cases hs : get env i with
  | un => exact ⟨F, .refl _, t⟩
  | sh d => exact ⟨F, .refl _, t⟩
  | ow ds =>
    rw [hs] at z
    obtain ⟨p, xs, z1, z2, z3, z4, z5, z6⟩ := z
    exact ⟨_, Same.updF z3, t.freezeG (by rw [hs]) z1 z5 (.lst upd_same (z6.mono (Same.updF z3)))⟩
  | od gs => exact ⟨F, .refl _, t⟩
  | oi C a gs =>
    rw [hs] at z
    obtain ⟨p, dx, xs, ⟨z1, _⟩, z2, z3, z4, z5, z6, z7⟩ := z
    exact ⟨_, Same.updF z3, t.freezeG (by rw [hs]) z1 z5 (.obj upd_same z6 (z7.mono (Same.updF z3)))⟩
end

/-- an exception: its class, its fields -/
structure Exn where
  cls : Addr
  fs : Option (List (Str × D))
def ExR (K : PySem.W.Frag) (F H : Hp) (cls : Value) (d : Option Addr) (e : Exn) : Prop :=
  cls = .ref e.cls ∧ match e.fs with
    | none => d = none
    | some gs => ∃ a fs, d = some a ∧ H a = some (.xd fs) ∧ fs.map (·.1) = gs.map (·.1) ∧ RvA K F (fs.map (·.2)) (gs.map (·.2))
def Wish (R : Res) (K : PySem.W.Frag) (F0 H0 : Hp) (E : XK) (Xn : Exn → Prop) : Prop :=
  ∀ e cls d F H, Stp R F0 H0 F H → Ok R F H → ExR K F H cls d e → Xn e → E cls d H
theorem Wish.step {R : Res} {K : PySem.W.Frag} {F0 H0 F H : Hp} {E : XK} {Xn : Exn → Prop} (w : Wish R K F0 H0 E Xn) (s : Stp R F0 H0 F H) : Wish R K F H E Xn :=
  fun e cls d F' H' s' o h q => w e cls d F' H' (s.trans s') o h q
abbrev NoX : Exn → Prop := fun _ => False
theorem wish_no {R : Res} {K : PySem.W.Frag} {F0 H0 : Hp} {E : XK} : Wish R K F0 H0 E NoX := fun _ _ _ _ _ _ _ _ z => z.elim

/-! ### the judgements -/
abbrev WE := Env → (Exn → Prop) → (Rs → Prop) → Prop
abbrev WT := Env → (Exn → Prop) → (Bool → Prop) → Prop
abbrev WA := Env → (Exn → Prop) → (List D → Prop) → Prop
structure WEnds where
  nx : Env → Prop
  rt : Rs → Prop
  bk : Env → Prop
  ct : Env → Prop
  xn : Exn → Prop
abbrev WS := Env → WEnds → Prop

def EvW (R : Res) (K : PySem.W.Frag) (E : XK) (t : TE) (w : WE) : Prop :=
  ∀ F0 H0 env σ F H Xn (Q : VK) (Q' : Rs → Prop), Sta R K F0 H0 env σ F H → Wish R K F0 H0 E Xn → w env Xn Q' →
    (∀ v r F' H', Stp R F H F' H' → Ok R F' H' → Rr R K H F' H' v r → Q' r → Q v H') → t σ H Q
def EtW (R : Res) (K : PySem.W.Frag) (E : XK) (t : TT) (w : WT) : Prop :=
  ∀ F0 H0 env σ F H Xn (Q : Bool → Hp → Prop) (Q' : Bool → Prop), Sta R K F0 H0 env σ F H → Wish R K F0 H0 E Xn → w env Xn Q' →
    (∀ b F' H', Stp R F H F' H' → Ok R F' H' → Q' b → Q b H') → t σ H Q
/-- arguments, items: frozen one by one -/
def EaW (R : Res) (K : PySem.W.Frag) (E : XK) (t : TA) (w : WA) : Prop :=
  ∀ F0 H0 env σ F H Xn (Q : List V → Hp → Prop) (Q' : List D → Prop), Sta R K F0 H0 env σ F H → Wish R K F0 H0 E Xn → w env Xn Q' →
    (∀ vs ds F' H', Stp R F H F' H' → Ok R F' H' → RvA K F' vs ds → Q' ds → Q vs H') → t σ H Q
structure EndsOk (R : Res) (K : PySem.W.Frag) (F0 H0 : Hp) (D : Ends) (D' : WEnds) : Prop where
  nx : ∀ env σ F H, Sta R K F0 H0 env σ F H → D'.nx env → D.nx σ H
  bk : ∀ env σ F H, Sta R K F0 H0 env σ F H → D'.bk env → D.bk σ H
  ct : ∀ env σ F H, Sta R K F0 H0 env σ F H → D'.ct env → D.ct σ H
  rt : ∀ v r F H, Stp R F0 H0 F H → Ok R F H → Rr R K H0 F H v r → D'.rt r → D.rt v H
def EsW (R : Res) (K : PySem.W.Frag) (E : XK) (t : TS) (w : WS) : Prop :=
  ∀ F0 H0 env σ F H D D', Sta R K F0 H0 env σ F H → Wish R K F0 H0 E D'.xn → EndsOk R K F0 H0 D D' → w env D' → t D σ H

structure VE (X : Cx) (R : Res) (E : XK) (e : Expr) (t : TE) (w : WE) : Prop where
  p : PE X e t
  w : EvW R X.K E t w
structure VT (X : Cx) (R : Res) (E : XK) (e : Expr) (t : TT) (w : WT) : Prop where
  p : PT X e t
  w : EtW R X.K E t w
structure VA (X : Cx) (R : Res) (E : XK) (es : List Expr) (t : TA) (w : WA) : Prop where
  p : PA X es t
  w : EaW R X.K E t w
structure VS (X : Cx) (R : Res) (E : XK) (st : Stmt) (t : TS) (w : WS) : Prop where
  p : PS X st t
  w : EsW R X.K E t w
structure VB (X : Cx) (R : Res) (E : XK) (st : List Stmt) (t : TS) (w : WS) : Prop where
  p : PSs X st t
  w : EsW R X.K E t w
end VH

set_option Elab.async false
set_option maxRecDepth 100000
set_option linter.all false
set_option maxHeartbeats 2000000
namespace VH
open PySem L2

section
variable {R : Res} {K : PySem.W.Frag} {E : XK}
/-! ### names and constants -/
def wVar (i : Nat) : WE := fun env _ Q => match get env i with
  | .sh d => Q (.sh d)
  | .ow ds => Q (.br ds)
  | .od kvs => Q (.bd kvs)
  | _ => False
theorem evw_var {i : Nat} : EvW R K E (tVar i) (wVar i) := by
  intro F0 H0 env σ F H Xn Q Q' t ws h k
  have z := t.sl i
  unfold wVar at h
  cases hs : get env i with
  | un => rw [hs] at h; exact h.elim
  | oi C a gs => rw [hs] at h; exact h.elim
  | sh d =>
    rw [hs] at z h
    obtain ⟨v, z1, z2⟩ := z
    exact ⟨v, z1, k v (.sh d) F H .refl t.ok z2 h⟩
  | ow ds =>
    rw [hs] at z h
    obtain ⟨p, xs, z1, z2, z3, z4, z5, z6⟩ := z
    exact ⟨_, z1, k _ (.br ds) F H .refl t.ok ⟨p, xs, rfl, z5, z4, z6⟩ h⟩
  | od gs =>
    rw [hs] at z h
    obtain ⟨p, xs, z1, z2, z3, z4, z5, z6, z7⟩ := z
    exact ⟨_, z1, k _ (.bd gs) F H .refl t.ok ⟨p, xs, rfl, z5, z4, z6, z7⟩ h⟩
def wC (d : D) : WE := fun _ _ Q => Q (.sh d)
theorem evw_c {v : V} {d : D} (h : ∀ F, Rv K F v d) : EvW R K E (tC v) (wC d) := by
  intro F0 H0 env σ F H Xn Q Q' t ws q k
  exact k v (.sh d) F H .refl t.ok (h F) q

/-! ### operations by values -/
/-- a two-place operation -/
def OpW (R : Res) (K : PySem.W.Frag) (r : R2) (g : D → D → (Rs → Prop) → Prop) : Prop :=
  ∀ F H x y a b (Q : VK) (Q' : Rs → Prop), Ok R F H → RvT R K F H x a → RvT R K F H y b → g a b Q' →
    (∀ v s F' H', Stp R F H F' H' → Ok R F' H' → Rr R K H F' H' v s → Q' s → Q v H') → r x y H Q
def wOp (g : D → D → (Rs → Prop) → Prop) (wa wb : WE) : WE := fun env Xn Q => wa env Xn fun a => wb env Xn fun b => g a.val b.val Q
theorem evw_op {ta tb : TE} {wa wb : WE} {r : R2} {g : D → D → (Rs → Prop) → Prop} (hr : OpW R K r g) (ha : EvW R K E ta wa) (hb : EvW R K E tb wb) : EvW R K E (tOp r ta tb) (wOp g wa wb) := by
  intro F0 H0 env σ F H Xn Q Q' t ws h k
  refine ha F0 H0 env σ F H Xn _ _ t ws h fun v1 r1 F1 H1 s1 o1 rr1 q1 => ?_
  refine hb F0 H0 env σ F1 H1 Xn _ _ (t.step s1 o1) ws q1 fun v2 r2 F2 H2 s2 o2 rr2 q2 => ?_
  refine hr F2 H2 _ _ _ _ _ _ o2 (rr1.top.step s2) rr2.top q2 fun v s F' H' s3 o3 rr q => ?_
  exact k v s F' H' ((s1.trans s2).trans s3) o3 (rr.back (s1.trans s2)) q
/-- a one-place operation, a call of one argument -/
def UnW (R : Res) (K : PySem.W.Frag) (r : V → Hp → VK → Prop) (g : D → (Rs → Prop) → Prop) : Prop :=
  ∀ F H x a (Q : VK) (Q' : Rs → Prop), Ok R F H → RvT R K F H x a → g a Q' →
    (∀ v s F' H', Stp R F H F' H' → Ok R F' H' → Rr R K H F' H' v s → Q' s → Q v H') → r x H Q
def wUn (g : D → (Rs → Prop) → Prop) (wa : WE) : WE := fun env Xn Q => wa env Xn fun a => g a.val Q
theorem evw_un {ta : TE} {wa : WE} {r : V → Hp → VK → Prop} {g : D → (Rs → Prop) → Prop} (hr : UnW R K r g) (ha : EvW R K E ta wa) : EvW R K E (tUn r ta) (wUn g wa) := by
  intro F0 H0 env σ F H Xn Q Q' t ws h k
  refine ha F0 H0 env σ F H Xn _ _ t ws h fun v1 r1 F1 H1 s1 o1 rr1 q1 => ?_
  refine hr F1 H1 _ _ _ _ o1 rr1.top q1 fun v s F' H' s3 o3 rr q => ?_
  exact k v s F' H' (s1.trans s3) o3 (rr.back s1) q
theorem evw_cb1 {ta : TE} {wa : WE} {r : List V → Hp → VK → Prop} {g : D → (Rs → Prop) → Prop} (hr : UnW R K (fun x => r [x]) g) (ha : EvW R K E ta wa) : EvW R K E (tCB r (tCons ta tNil)) (wUn g wa) := by
  intro F0 H0 env σ F H Xn Q Q' t ws h k
  refine ha F0 H0 env σ F H Xn _ _ t ws h fun v1 r1 F1 H1 s1 o1 rr1 q1 => ?_
  refine hr F1 H1 _ _ _ _ o1 rr1.top q1 fun v s F' H' s3 o3 rr q => ?_
  exact k v s F' H' (s1.trans s3) o3 (rr.back s1) q
theorem evw_cb2 {ta tb : TE} {wa wb : WE} {r : List V → Hp → VK → Prop} {g : D → D → (Rs → Prop) → Prop} (hr : OpW R K (fun x y => r [x, y]) g) (ha : EvW R K E ta wa) (hb : EvW R K E tb wb) : EvW R K E (tCB r (tCons ta (tCons tb tNil))) (wOp g wa wb) := by
  intro F0 H0 env σ F H Xn Q Q' t ws h k
  refine ha F0 H0 env σ F H Xn _ _ t ws h fun v1 r1 F1 H1 s1 o1 rr1 q1 => ?_
  refine hb F0 H0 env σ F1 H1 Xn _ _ (t.step s1 o1) ws q1 fun v2 r2 F2 H2 s2 o2 rr2 q2 => ?_
  refine hr F2 H2 _ _ _ _ _ _ o2 (rr1.top.step s2) rr2.top q2 fun v s F' H' s3 o3 rr q => ?_
  exact k v s F' H' ((s1.trans s2).trans s3) o3 (rr.back (s1.trans s2)) q

/-- a result at once -/
theorem now {F H : Hp} {v : V} {d : D} {Q : VK} {Q' : Rs → Prop} (o : Ok R F H) (k : ∀ v s F' H', Stp R F H F' H' → Ok R F' H' → Rr R K H F' H' v s → Q' s → Q v H') (h : Rv K F v d) (q : Q' (.sh d)) : Q v H :=
  k v (.sh d) F H .refl o h q
/-- a new list, a new tuple -/
theorem newL {F H : Hp} {xs : List V} {ds : List D} {Q : VK} {Q' : Rs → Prop} (o : Ok R F H) (k : ∀ v s F' H', Stp R F H F' H' → Ok R F' H' → Rr R K H F' H' v s → Q' s → Q v H') (h : RvA K F xs ds) (q : Q' (.nw ds)) {p : Addr} (hp : H p = none) : Q (.ref p) (upd H p (.lst xs)) :=
  k _ (.nw ds) F _ (o.newT hp) (o.newO hp) ⟨p, xs, rfl, hp, upd_same, o.notF hp, o.notA hp, h⟩ q
theorem newT {F H : Hp} {xs : List V} {ds : List D} {Q : VK} {Q' : Rs → Prop} (o : Ok R F H) (k : ∀ v s F' H', Stp R F H F' H' → Ok R F' H' → Rr R K H F' H' v s → Q' s → Q v H') (h : RvA K F xs ds) (q : Q' (.sh (.tup ds))) {p : Addr} (hp : H p = none) : Q (.ref p) (upd H p (.tup xs)) :=
  k _ (.sh (.tup ds)) _ _ (o.newS hp) (o.newF hp) (Rv.tup (SqT.of upd_same) (h.mono (Same.updF (o.notF hp)))) q

/-! ### arithmetic -/
def gAdd : D → D → (Rs → Prop) → Prop
  | .int i, .int j, Q => Q (.sh (.int (i + j)))
  | .str a, .str b, Q => a.length + b.length ≤ sizeLine ∧ Q (.sh (.str (a ++ b)))
  | .lst a, .lst b, Q => a.length + b.length ≤ sizeLine ∧ Q (.nw (a ++ b))
  | .tup a, .tup b, Q => a.length + b.length ≤ sizeLine ∧ Q (.sh (.tup (a ++ b)))
  | .int i, .bl b, Q => Q (.sh (.int (i + PyProof.Rows.b2i b)))
  | _, _, _ => False
def rAddAll (K : PySem.W.Frag) : R2 := fun x y H Q => rI0 (fun i j => .int (i + j)) x y H Q ∨ (∃ i j, x = .str i ∧ y = .str j ∧ i.length + j.length ≤ sizeLine ∧ Q (.str (i ++ j)) H) ∨ rCat x y H Q ∨ rCatA K x y H Q ∨ (∃ i k, x = .int i ∧ y = .bl k ∧ Q (.int (i + PyProof.Rows.b2i k)) H)
theorem opr_add {X : Cx} : OpR X (binaryOp .Add) (rAddAll X.K) := op_add.or (op_add_str.or (op_cat.or (op_catA.or op_add_ib)))
theorem frz_tup {F H : Hp} {v : V} {ds : List D} (h : RvT R K F H v (.tup ds)) : Rv K F v (.tup ds) := by
  rcases h with h | ⟨p, xs, ds', h1, h2, h3, h4, h5⟩ | ⟨p, fs, gs, h1, h2, h3, h4, h5, h6⟩
  · exact h
  · cases h2
  · cases h2
theorem opw_add : OpW R K (rAddAll K) gAdd := by
  intro F H x y a b Q Q' o ha hb h k
  cases a <;> cases b <;> first | exact h.elim | skip
  · rw [top_int ha, top_bl hb]; exact .inr (.inr (.inr (.inr ⟨_, _, rfl, rfl, now o k (.int _) h⟩)))
  · rw [top_int ha, top_int hb]; exact .inl ⟨_, _, rfl, rfl, now o k (.int _) h⟩
  · rw [top_str ha, top_str hb]; exact .inr (.inl ⟨_, _, rfl, rfl, h.1, now o k (.str _) h.2⟩)
  · obtain ⟨p, xs, e1, h1, r1⟩ := top_tup o ha
    obtain ⟨q, ys, e2, h2, r2⟩ := top_tup o hb
    have f1 := frz_tup ha
    have f2 := frz_tup hb
    subst e1 e2
    refine .inr (.inr (.inr (.inl ⟨p, q, xs, ys, rfl, rfl, h1, h2, by rw [r1.length, r2.length]; exact h.1, fun e => ?_, fun n e => ?_, fun n m p hp => newT o k (r1.append r2) h.2 hp⟩)))
    · subst e
      cases r1
      exact now o k f2 h.2
    · subst e
      cases r2
      exact now o k f1 (by have q := h.2; rw [List.append_nil] at q; exact q)
  · obtain ⟨p, xs, e1, h1, _, r1⟩ := top_lst o ha
    obtain ⟨q, ys, e2, h2, _, r2⟩ := top_lst o hb
    subst e1 e2
    exact .inr (.inr (.inl ⟨p, q, xs, ys, rfl, rfl, h1, h2, by rw [r1.length, r2.length]; exact h.1, fun p hp => newL o k (r1.append r2) h.2 hp⟩))
def gInt (C : Int → Int → Prop) (f : Int → Int → D) : D → D → (Rs → Prop) → Prop
  | .int i, .int j, Q => C i j ∧ Q (.sh (f i j))
  | _, _, _ => False
theorem opw_int {C C' : Int → Int → Prop} {f : Int → Int → V} {g : Int → Int → D} (hc : ∀ i j, C i j → C' i j) (h : ∀ F i j, Rv K F (f i j) (g i j)) : OpW R K (rI C' f) (gInt C g) := by
  intro F H x y a b Q Q' o ha hb q k
  cases a <;> cases b <;> first | exact q.elim | skip
  rw [top_int ha, top_int hb]; exact ⟨_, _, rfl, rfl, hc _ _ q.1, now o k (h F _ _) q.2⟩
def gInt0 (f : Int → Int → D) : D → D → (Rs → Prop) → Prop
  | .int i, .int j, Q => Q (.sh (f i j))
  | _, _, _ => False
theorem opw_int0 {f : Int → Int → V} {g : Int → Int → D} (h : ∀ F i j, Rv K F (f i j) (g i j)) : OpW R K (rI0 f) (gInt0 g) := by
  intro F H x y a b Q Q' o ha hb q k
  cases a <;> cases b <;> first | exact q.elim | skip
  rw [top_int ha, top_int hb]; exact ⟨_, _, rfl, rfl, now o k (h F _ _) q⟩
abbrev gMinus := gInt0 fun i j => .int (i - j)
theorem opw_sub : OpW R K (rI0 fun i j => .int (i - j)) gMinus := opw_int0 fun _ _ _ => .int _
def CMulA (i j : Int) : Prop := CMul i j ∨ CMulW i j
theorem opr_mul {X : Cx} : OpR X (binaryOp .Mult) (rI CMulA fun i j => .int (i * j)) := by
  intro pins s σ H x y v u Q I rx ry h
  obtain ⟨i, j, e1, e2, c | c, q⟩ := h
  · exact op_mul pins s σ H x y v u Q I rx ry ⟨i, j, e1, e2, c, q⟩
  · exact op_mulW pins s σ H x y v u Q I rx ry ⟨i, j, e1, e2, c, q⟩
abbrev gMul := gInt CMulA fun i j => .int (i * j)
theorem opw_mul : OpW R K (rI CMulA fun i j => .int (i * j)) gMul := opw_int (fun _ _ h => h) fun _ _ _ => .int _
abbrev gFdiv := gInt CDivW fun i j => .int (i / j)
theorem opw_fdiv : OpW R K (rI CDivW fun i j => .int (i / j)) gFdiv := opw_int (fun _ _ h => h) fun _ _ _ => .int _
abbrev gMod := gInt (fun _ j => 0 < j) fun i j => .int (i % j)
theorem opw_mod : OpW R K (rI (fun _ j => 0 < j) fun i j => .int (i % j)) gMod := opw_int (fun _ _ h => h) fun _ _ _ => .int _
abbrev gPow := gInt CPow fun i j => .int (i ^ j.toNat)
theorem opw_pow : OpW R K (rI CPow fun i j => .int (i ^ j.toNat)) gPow := opw_int (fun _ _ h => h) fun _ _ _ => .int _
def gNeg : D → (Rs → Prop) → Prop
  | .int i, Q => Q (.sh (.int (-i)))
  | _, _ => False
theorem unw_neg : UnW R K (rU fun i => .int (-i)) gNeg := by
  intro F H x a Q Q' o ha q k
  cases a <;> first | exact q.elim | skip
  rw [top_int ha]; exact ⟨_, rfl, now o k (.int _) q⟩

/-! ### comparisons -/
abbrev gLt := gInt0 fun i j => .bl (decide (i < j))
abbrev gLe := gInt0 fun i j => .bl (decide (i ≤ j))
abbrev gGt := gInt0 fun i j => .bl (decide (j < i))
abbrev gGe := gInt0 fun i j => .bl (decide (j ≤ i))
theorem opw_lt : OpW R K (rI0 fun i j => .bl (decide (i < j))) gLt := opw_int0 fun _ _ _ => .bl _
theorem opw_le : OpW R K (rI0 fun i j => .bl (decide (i ≤ j))) gLe := opw_int0 fun _ _ _ => .bl _
theorem opw_gt : OpW R K (rI0 fun i j => .bl (decide (j < i))) gGt := opw_int0 fun _ _ _ => .bl _
theorem opw_ge : OpW R K (rI0 fun i j => .bl (decide (j ≤ i))) gGe := opw_int0 fun _ _ _ => .bl _
end

/-! ### data -/
mutual
def D.data : D → Option PyData
  | .non => some .none
  | .bl b => some (.bool b)
  | .int i => some (.int i)
  | .str x => some (.str x)
  | .tup ds => (D.dataAll ds).map .tuple
  | .lst ds => (D.dataAll ds).map .list
  | _ => none
def D.dataAll : List D → Option (List PyData)
  | [] => some []
  | d :: ds => match D.data d, D.dataAll ds with
    | some x, some xs => some (x :: xs)
    | _, _ => none
end
section
variable {R : Res} {K : PySem.W.Frag} {F H : Hp}
mutual
theorem Rv.dp (e : Same F H) : ∀ {v : V} {d : D} {x : PyData}, Rv K F v d → d.data = some x → Dp K H v x
  | _, _, _, .non, h => by cases h; exact .non
  | _, _, _, .bl b, h => by cases h; exact .bl b
  | _, _, _, .int i, h => by cases h; exact .int i
  | _, _, _, .str x, h => by cases h; exact .str x
  | _, _, _, .ref a, h => by cases h
  | _, _, _, .ty n, h => by cases h
  | _, _, _, .tup (ds := ds) p r, h => by
    have h : (D.dataAll ds).map PyData.tuple = some _ := h
    obtain ⟨xs, hx, rfl⟩ := Option.map_eq_some_iff.mp h
    exact .tup (sqT_mono e p) (RvA.dp e r hx)
  | _, _, _, .lst (ds := ds) p r, h => by
    have h : (D.dataAll ds).map PyData.list = some _ := h
    obtain ⟨xs, hx, rfl⟩ := Option.map_eq_some_iff.mp h
    exact .lst (SqL.of (e _ _ p)) (RvA.dp e r hx)
  | _, _, _, .fls _, h => by cases h
  | _, _, _, .obj _ _ _, h => by cases h
  | _, _, _, .dk _ _ _, h => by cases h
theorem RvA.dp (e : Same F H) : ∀ {vs : List V} {ds : List D} {xs : List PyData}, RvA K F vs ds → D.dataAll ds = some xs → DpAll K H vs xs
  | _, _, _, .nil, h => by cases h; exact .nil
  | _, _, _, .cons (d := d) (ds := ds) r rs, h => by
    unfold D.dataAll at h
    cases e1 : D.data d with
    | none => rw [e1] at h; cases h
    | some x =>
      cases e2 : D.dataAll ds with
      | none => rw [e1, e2] at h; cases h
      | some xs =>
        rw [e1, e2] at h
        cases h
        exact .cons (Rv.dp e r e1) (RvA.dp e rs e2)
end
theorem RvT.dp (o : Ok R F H) {v : V} {d : D} {x : PyData} (h : RvT R K F H v d) (q : d.data = some x) : Dp K H v x := by
  rcases h with h | ⟨p, xs, ds, h1, h2, h3, h4, h5⟩ | ⟨p, fs, gs, h1, h2, h3, h4, h5, h6⟩
  · exact h.dp o.ex q
  · subst h1 h2
    have q : (D.dataAll ds).map PyData.list = some _ := q
    obtain ⟨ys, hx, rfl⟩ := Option.map_eq_some_iff.mp q
    exact .lst (SqL.of h3) (h5.dp o.ex hx)
  · subst h1 h2
    cases q
end

section
variable {R : Res} {K : PySem.W.Frag} {E : XK}
def gEqW (neg : Bool) : D → D → (Rs → Prop) → Prop
  | .int i, .int j, Q => Q (.sh (.bl (if neg then !decide (i = j) else decide (i = j))))
  | .str i, .str j, Q => Q (.sh (.bl (if neg then !decide (i = j) else decide (i = j))))
  | .bl i, .bl j, Q => Q (.sh (.bl (if neg then !decide (i = j) else decide (i = j))))
  | a, b, Q => ∃ x y, a.data = some x ∧ b.data = some y ∧ SeqAt.shaped x = true ∧ SeqAt.shaped y = true ∧ Q (.sh (.bl (if neg then !PyData.eqv x y else PyData.eqv x y)))
abbrev gEq := gEqW false
abbrev gNe := gEqW true
def rEqA (K : PySem.W.Frag) : R2 := fun x y H Q => rEq x y H Q ∨ rEqD K x y H Q
def rNeA (K : PySem.W.Frag) : R2 := fun x y H Q => rNe x y H Q ∨ rNeD K x y H Q
theorem opr_eq {X : Cx} (hu : X.A.units + 64 < cLine) : OpR X (compareOp .Eq) (rEqA X.K) := op_eq.or (op_eqD hu)
theorem opr_ne {X : Cx} (hu : X.A.units + 64 < cLine) : OpR X (compareOp .NotEq) (rNeA X.K) := op_ne.or (op_neD hu)
theorem dec_int (i j : Int) : decide (V.int i = V.int j) = decide (i = j) := by
  by_cases h : i = j
  · rw [h]; simp
  · rw [decide_eq_false h, decide_eq_false fun e => h (V.int.inj e)]
theorem dec_str (i j : Str) : decide (V.str i = V.str j) = decide (i = j) := by
  by_cases h : i = j
  · rw [h]; simp
  · rw [decide_eq_false h, decide_eq_false fun e => h (V.str.inj e)]
theorem dec_bl (i j : Bool) : decide (V.bl i = V.bl j) = decide (i = j) := by
  by_cases h : i = j
  · rw [h]; simp
  · rw [decide_eq_false h, decide_eq_false fun e => h (V.bl.inj e)]
theorem opw_eqG {F H : Hp} {x y : V} {a b : D} {Q : VK} {Q' : Rs → Prop} (o : Ok R F H) (ha : RvT R K F H x a) (hb : RvT R K F H y b)
    (h : ∃ x y, a.data = some x ∧ b.data = some y ∧ SeqAt.shaped x = true ∧ SeqAt.shaped y = true ∧ Q' (.sh (.bl (PyData.eqv x y))))
    (k : ∀ v s F' H', Stp R F H F' H' → Ok R F' H' → Rr R K H F' H' v s → Q' s → Q v H') : rEqA K x y H Q := by
  obtain ⟨x', y', h1, h2, h3, h4, q⟩ := h
  exact .inr ⟨x', y', ha.dp o h1, hb.dp o h2, h3, h4, now o k (.bl _) q⟩
theorem opw_neG {F H : Hp} {x y : V} {a b : D} {Q : VK} {Q' : Rs → Prop} (o : Ok R F H) (ha : RvT R K F H x a) (hb : RvT R K F H y b)
    (h : ∃ x y, a.data = some x ∧ b.data = some y ∧ SeqAt.shaped x = true ∧ SeqAt.shaped y = true ∧ Q' (.sh (.bl (!PyData.eqv x y))))
    (k : ∀ v s F' H', Stp R F H F' H' → Ok R F' H' → Rr R K H F' H' v s → Q' s → Q v H') : rNeA K x y H Q := by
  obtain ⟨x', y', h1, h2, h3, h4, q⟩ := h
  exact .inr ⟨x', y', ha.dp o h1, hb.dp o h2, h3, h4, now o k (.bl _) q⟩
theorem opw_eq : OpW R K (rEqA K) gEq := by
  intro F H x y a b Q Q' o ha hb h k
  unfold gEq gEqW at h
  split at h
  · rw [top_int ha, top_int hb]
    exact .inl ⟨rfl, by rw [dec_int]; exact now o k (.bl _) h⟩
  · rw [top_str ha, top_str hb]
    exact .inl ⟨rfl, by rw [dec_str]; exact now o k (.bl _) h⟩
  · rw [top_bl ha, top_bl hb]
    exact .inl ⟨rfl, by rw [dec_bl]; exact now o k (.bl _) h⟩
  · exact opw_eqG o ha hb h k
theorem opw_ne : OpW R K (rNeA K) gNe := by
  intro F H x y a b Q Q' o ha hb h k
  unfold gNe gEqW at h
  split at h
  · rw [top_int ha, top_int hb]
    exact .inl ⟨rfl, by rw [dec_int]; exact now o k (.bl _) h⟩
  · rw [top_str ha, top_str hb]
    exact .inl ⟨rfl, by rw [dec_str]; exact now o k (.bl _) h⟩
  · rw [top_bl ha, top_bl hb]
    exact .inl ⟨rfl, by rw [dec_bl]; exact now o k (.bl _) h⟩
  · exact opw_neG o ha hb h k
/-! is None -/
@[reducible] def D.isNon : D → Bool
  | .non => true
  | _ => false
theorem isNon_of {F H : Hp} {v : V} {d : D} (h : RvT R K F H v d) : decide (v = .non) = d.isNon := by
  rcases h with h | ⟨p, xs, ds, h1, h2, h3, h4, h5⟩ | ⟨p, fs, gs, h1, h2, h3, h4, h5, h6⟩
  · cases h <;> rfl
  · subst h1 h2; rfl
  · subst h1 h2; rfl
def gIsN : D → D → (Rs → Prop) → Prop := fun a b Q => match b with
  | .non => Q (.sh (.bl a.isNon))
  | _ => False
def gNotN : D → D → (Rs → Prop) → Prop := fun a b Q => match b with
  | .non => Q (.sh (.bl (!a.isNon)))
  | _ => False
theorem opw_isN : OpW R K (fun x y H Q => y = .non ∧ Q (.bl (decide (x = .non))) H) gIsN := by
  intro F H x y a b Q Q' o ha hb h k
  cases b <;> first | exact h.elim | skip
  exact ⟨top_non hb, by rw [isNon_of ha]; exact now o k (.bl _) h⟩
theorem opw_notN : OpW R K (fun x y H Q => y = .non ∧ Q (.bl (!decide (x = .non))) H) gNotN := by
  intro F H x y a b Q Q' o ha hb h k
  cases b <;> first | exact h.elim | skip
  exact ⟨top_non hb, by rw [isNon_of ha]; exact now o k (.bl _) h⟩
/-! in -/
@[reducible] def D.flat : D → Bool
  | .non => true
  | .bl _ => true
  | .int _ => true
  | .str _ => true
  | _ => false
def eqF : D → D → Bool
  | .non, .non => true
  | .bl a, .bl b => a == b
  | .bl a, .int b => (if a then 1 else 0) == b
  | .int a, .bl b => a == (if b then 1 else 0)
  | .int a, .int b => a == b
  | .str a, .str b => a == b
  | _, _ => false
theorem flat_of {F : Hp} {v : V} {d : D} (h : Rv K F v d) (f : d.flat = true) : flatV v = true := by
  cases h <;> first | rfl | cases f
theorem flatT {F H : Hp} {v : V} {d : D} (h : RvT R K F H v d) (f : d.flat = true) : Rv K F v d := by
  rcases h with h | ⟨p, xs, ds, h1, h2, h3, h4, h5⟩ | ⟨p, fs, gs, h1, h2, h3, h4, h5, h6⟩
  · exact h
  · subst h2; cases f
  · subst h2; cases f
theorem flat_all {F : Hp} : ∀ {vs : List V} {ds : List D}, RvA K F vs ds → ds.all D.flat = true → vs.all flatV = true
  | _, _, .nil, _ => rfl
  | _, _, .cons h r, f => by
    rw [List.all_cons, Bool.and_eq_true] at f ⊢
    exact ⟨flat_of h f.1, flat_all r f.2⟩
theorem eqV_eqF {F : Hp} {v w : V} {d e : D} (h : Rv K F v d) (h' : Rv K F w e) : eqV v w = eqF d e := by
  cases h <;> cases h' <;> rfl
theorem inV_any {F : Hp} {v : V} {d : D} (h : Rv K F v d) : ∀ {vs : List V} {ds : List D}, RvA K F vs ds → inV v vs = ds.any fun y => eqF y d
  | _, _, .nil => rfl
  | _, _, .cons q r => by
    show (eqV _ v || inV v _) = (eqF _ d || _)
    rw [eqV_eqF q h, inV_any h r]
@[reducible] def D.key : D → Option Key
  | .int i => some (.inl i)
  | .str x => some (.inr x)
  | _ => none
def dkGet (kvs : List (Key × D)) (k : Key) : Option D := (kvs.find? fun kv => decide (kv.1 = k)).map (·.2)
theorem dk_rel {F : Hp} {k : Key} : ∀ {fs : List (Key × V)} {gs : List (Key × D)}, fs.map (·.1) = gs.map (·.1) → RvA K F (fs.map (·.2)) (gs.map (·.2)) →
    (valV fs k).isSome = (dkGet gs k).isSome ∧ ∀ d, dkGet gs k = some d → ∃ v, valV fs k = some v ∧ Rv K F v d
  | [], [], _, _ => ⟨rfl, fun d h => by cases h⟩
  | [], _ :: _, h, _ => by cases h
  | _ :: _, [], h, _ => by cases h
  | (k1, v1) :: fs, (k2, d2) :: gs, h, r => by
    simp only [List.map_cons, List.cons.injEq] at h
    obtain ⟨h1, h2⟩ := h
    simp only [List.map_cons] at r
    cases r with
    | cons q r =>
      obtain ⟨i1, i2⟩ := dk_rel (k := k) h2 r
      subst h1
      by_cases e : k1 = k
      · subst e
        refine ⟨by simp [valV, dkGet, List.find?_cons], fun d h => ⟨v1, by simp [valV, List.find?_cons], ?_⟩⟩
        have h : (some d2 : Option D) = some d := by simpa [dkGet, List.find?_cons] using h
        cases h
        exact q
      · have e1 : valV ((k1, v1) :: fs) k = valV fs k := valV_neg e
        have e2 : dkGet ((k1, d2) :: gs) k = dkGet gs k := by simp [dkGet, List.find?_cons, e]
        rw [e1, e2]
        exact ⟨i1, i2⟩
theorem key_of {F H : Hp} {v : V} {d : D} {k : Key} (h : RvT R K F H v d) (e : d.key = some k) : v = kV k := by
  cases d <;> first | cases e | skip
  · exact top_int h
  · exact top_str h
def gInW (neg : Bool) : D → D → (Rs → Prop) → Prop
  | a, .tup ds, Q => a.flat = true ∧ ds.all D.flat = true ∧ Q (.sh (.bl (if neg then !(ds.any fun y => eqF y a) else ds.any fun y => eqF y a)))
  | a, .lst ds, Q => a.flat = true ∧ ds.all D.flat = true ∧ Q (.sh (.bl (if neg then !(ds.any fun y => eqF y a) else ds.any fun y => eqF y a)))
  | a, .dk kvs, Q => gOpt a.key fun k => Q (.sh (.bl (if neg then !(dkGet kvs k).isSome else (dkGet kvs k).isSome)))
  | .str a, .str b, Q => Q (.sh (.bl (if neg then !(!(Builtin.Str.occurrences b a 0 b.length 1).isEmpty) else !(Builtin.Str.occurrences b a 0 b.length 1).isEmpty)))
  | _, _, _ => False
abbrev gIn := gInW false
abbrev gNotIn := gInW true
def rInA (K : PySem.W.Frag) (neg : Bool) : R2 := fun x y H Q => rIn K neg x y H Q ∨ (∃ a o, y = .ref a ∧ DGet H a x o ∧ Q (.bl (if neg then !o.isSome else o.isSome)) H) ∨
  (∃ i j, x = .str i ∧ y = .str j ∧ Q (.bl (if neg then !(!(Builtin.Str.occurrences j i 0 j.length 1).isEmpty) else !(Builtin.Str.occurrences j i 0 j.length 1).isEmpty)) H)
theorem opr_in {X : Cx} (hu : X.A.units + 1 < cLine) : OpR X (compareOp .In) (rInA X.K false) := by
  refine op_in_seq.or (OpR.or ?_ ?_)
  · intro pins s σ H x y v u Q I rx ry h
    obtain ⟨a, o, rfl, g, q⟩ := h
    cases ry
    exact d_in hu I g rx fun s3 I3 => ⟨.bl o.isSome, H, I3, rfl, q⟩
  · exact op_in_str
theorem opr_notIn {X : Cx} (hu : X.A.units + 1 < cLine) : OpR X (compareOp .NotIn) (rInA X.K true) := by
  refine op_notIn_seq.or (OpR.or ?_ ?_)
  · intro pins s σ H x y v u Q I rx ry h
    obtain ⟨a, o, rfl, g, q⟩ := h
    cases ry
    exact d_notIn hu I g rx fun s3 I3 => ⟨.bl (!o.isSome), H, I3, rfl, q⟩
  · exact op_notin_str
theorem opw_in {neg : Bool} : OpW R K (rInA K neg) (gInW neg) := by
  intro F H x y a b Q Q' o ha hb h k
  unfold gInW at h
  split at h
  · obtain ⟨p, xs, rfl, hx, r⟩ := top_tup o hb
    have fa := flatT ha h.1
    refine .inl ⟨p, xs, rfl, .inr hx, flat_of fa h.1, flat_all r h.2.1, ?_⟩
    rw [inV_any fa r]
    exact now o k (.bl _) h.2.2
  · obtain ⟨p, xs, rfl, hx, _, r⟩ := top_lst o hb
    have fa := flatT ha h.1
    refine .inl ⟨p, xs, rfl, .inl (SqL.of hx), flat_of fa h.1, flat_all r h.2.1, ?_⟩
    rw [inV_any fa r]
    exact now o k (.bl _) h.2.2
  · obtain ⟨p, fs, rfl, hp, na, e, r⟩ := top_dk o hb
    obtain ⟨k', hk, h⟩ := gOpt_ex h
    have ek := key_of ha hk
    subst ek
    refine .inr (.inl ⟨p, _, rfl, (.inl ⟨_, _, hp, rfl, rfl⟩ : DGet _ _ _ _), ?_⟩)
    rw [(dk_rel e r).1]
    exact now o k (.bl _) h
  · rw [top_str ha, top_str hb]
    exact .inr (.inr ⟨_, _, rfl, rfl, now o k (.bl _) h⟩)
  · exact h.elim
end
end VH

set_option Elab.async false
set_option maxRecDepth 100000
set_option linter.all false
set_option maxHeartbeats 2000000
namespace VH
open PySem L2

section
variable {R : Res} {K : PySem.W.Frag} {E : XK}
/-! ### indexes -/
def ixD {α : Type} (ds : List α) (i : Int) : Option α := if 0 ≤ i then ds[i.toNat]? else if -(ds.length : Int) ≤ i then ds[(i + ds.length).toNat]? else none
theorem ixD_nat {α : Type} (ds : List α) (k : Nat) : ixD ds (k : Int) = ds[k]? := by
  unfold ixD
  rw [if_pos (by omega)]
  simp
theorem ixD_at {α : Type} {ds : List α} {i : Int} {d : α} (h : ixD ds i = some d) : ∃ j, ixN ds.length i = some j ∧ ds[j]? = some d := by
  unfold ixD at h
  by_cases h0 : 0 ≤ i
  · rw [if_pos h0] at h
    have hl := (List.getElem?_eq_some_iff.mp h).1
    refine ⟨i.toNat, ?_, h⟩
    unfold ixN
    rw [if_pos h0, if_pos (by omega)]
  · rw [if_neg h0] at h
    by_cases h1 : -(ds.length : Int) ≤ i
    · rw [if_pos h1] at h
      refine ⟨(i + ds.length).toNat, ?_, h⟩
      unfold ixN
      rw [if_neg h0, if_pos h1]
    · rw [if_neg h1] at h; cases h
theorem rva_at {F : Hp} {xs : List V} {ds : List D} {i : Int} {d : D} (r : RvA K F xs ds) (h : ixD ds i = some d) : ∃ v, atI xs i = some v ∧ Rv K F v d := by
  obtain ⟨j, h1, h2⟩ := ixD_at h
  obtain ⟨v, e, rv⟩ := r.get h2
  refine ⟨v, ?_, rv⟩
  unfold atI
  rw [r.length, h1]
  exact e
def gIx : D → D → (Rs → Prop) → Prop
  | .tup ds, .int i, Q => gOpt (ixD ds i) fun d => Q (.sh d)
  | .lst ds, .int i, Q => gOpt (ixD ds i) fun d => Q (.sh d)
  | .str z, .int i, Q => z.length ≤ sizeLine ∧ gOpt (ixD z.cps.toList i) fun c => Q (.sh (.str ⟨#[c]⟩))
  | .dk kvs, b, Q => gOpt b.key fun k => gOpt (dkGet kvs k) fun d => Q (.sh d)
  | _, _, _ => False
def rIxA (K : PySem.W.Frag) : R2 := fun x y H Q => rIx K x y H Q ∨ ∃ a v, x = .ref a ∧ DGet H a y (some v) ∧ Q v H
theorem ixr_all {X : Cx} (hu : X.A.units + 1 < cLine) : IxR X (rIxA X.K) := by
  refine ix_seq.or ?_
  intro value slice pins s σ H x y v u Q I rx ry h hs
  obtain ⟨a, w, rfl, g, q⟩ := h
  cases rx
  exact PyProof.Rows.tail_any (dict_typeIs I g) PySem.F.slot_dict_getitem.lookup (d_getItem hu I g ry fun w' s3 I3 rw' => ⟨w, H, I3, rw', q⟩) hs
theorem opw_ix : OpW R K (rIxA K) gIx := by
  intro F H x y a b Q Q' o ha hb h k
  unfold gIx at h
  split at h
  · obtain ⟨d, h1, h2⟩ := gOpt_ex h
    obtain ⟨p, xs, rfl, hx, r⟩ := top_tup o ha
    obtain ⟨v, e, rv⟩ := rva_at r h1
    rw [top_int hb]
    exact .inl (.inr (.inl ⟨p, xs, _, v, rfl, rfl, hx, e, now o k rv h2⟩))
  · obtain ⟨d, h1, h2⟩ := gOpt_ex h
    obtain ⟨p, xs, rfl, hx, _, r⟩ := top_lst o ha
    obtain ⟨v, e, rv⟩ := rva_at r h1
    rw [top_int hb]
    exact .inl (.inl ⟨p, xs, _, v, rfl, rfl, SqL.of hx, e, now o k rv h2⟩)
  · obtain ⟨h0, h⟩ := h
    obtain ⟨c, h1, h2⟩ := gOpt_ex h
    obtain ⟨j, e1, e2⟩ := ixD_at h1
    rw [top_str ha, top_int hb]
    exact .inl (.inr (.inr ⟨_, _, c, rfl, rfl, h0, by unfold atI; rw [e1]; exact e2, now o k (.str _) h2⟩))
  · obtain ⟨k', h1, h⟩ := gOpt_ex h
    obtain ⟨d, h2, h3⟩ := gOpt_ex h
    obtain ⟨p, fs, rfl, hp, na, e, r⟩ := top_dk o ha
    have ek := key_of hb h1
    subst ek
    obtain ⟨v, e1, rv⟩ := (dk_rel e r).2 d h2
    exact .inr ⟨p, v, rfl, by rw [← e1]; exact .inl ⟨_, _, hp, rfl, rfl⟩, now o k rv h3⟩
  · exact h.elim

/-! ### len, int, abs, min, max, list, tuple, sum, repr -/
def gLen : D → (Rs → Prop) → Prop
  | .tup ds, Q => Q (.sh (.int ds.length))
  | .lst ds, Q => Q (.sh (.int ds.length))
  | .dk kvs, Q => Q (.sh (.int kvs.length))
  | .str z, Q => z.length ≤ sizeLine ∧ Q (.sh (.int z.length))
  | _, _ => False
def rLenA (K : PySem.W.Frag) : List V → Hp → VK → Prop := fun xs H Q => (∃ x n, xs = [x] ∧ LenV K x H n ∧ Q (.int n) H) ∨ ∃ a kvs, xs = [V.ref a] ∧ Rd H a (.dK kvs) ∧ Q (.int kvs.length) H
theorem call_lenDR {X : Cx} : CallR X (.builtin "len") (fun xs H Q => ∃ a kvs, xs = [V.ref a] ∧ Rd H a (.dK kvs) ∧ Q (.int kvs.length) H) := by
  intro pins s σ H xs us Q I r h
  obtain ⟨a, kvs, rfl, ha, q⟩ := h
  obtain ⟨u, rfl, ru⟩ := vals1 r
  cases ru
  exact d_len I ha fun t s' I' => ⟨.int kvs.length, H, I', ⟨t, rfl⟩, q⟩
theorem cr_lenA {X : Cx} : CallR X (.builtin "len") (rLenA X.K) := call_len.or call_lenDR
theorem unw_len : UnW R K (fun x => rLenA K [x]) gLen := by
  intro F H x a Q Q' o ha h k
  unfold gLen at h
  split at h
  · obtain ⟨p, xs, rfl, hx, r⟩ := top_tup o ha
    exact .inl ⟨_, xs.length, rfl, .inr ⟨xs, hx, rfl⟩, now o k (by rw [r.length]; exact .int _) h⟩
  · obtain ⟨p, xs, rfl, hx, _, r⟩ := top_lst o ha
    exact .inl ⟨_, xs.length, rfl, .inl ⟨xs, SqL.of hx, rfl⟩, now o k (by rw [r.length]; exact .int _) h⟩
  · rename_i kvs
    obtain ⟨p, fs, rfl, hp, na, e, r⟩ := top_dk o ha
    have el : fs.length = kvs.length := by have := congrArg List.length e; simpa using this
    exact .inr ⟨p, fs, rfl, hp, now o k (by rw [el]; exact .int _) h⟩
  · rw [top_str ha]
    exact .inl ⟨_, _, rfl, ⟨h.1, rfl⟩, now o k (.int _) h.2⟩
  · exact h.elim
def gAbs : D → (Rs → Prop) → Prop
  | .int i, Q => Q (.sh (.int (if i < 0 then -i else i)))
  | _, _ => False
theorem unw_abs : UnW R K (fun x H Q => ∃ i, [x] = [V.int i] ∧ Q (.int (if i < 0 then -i else i)) H) gAbs := by
  intro F H x a Q Q' o ha h k
  cases a <;> first | exact h.elim | skip
  rw [top_int ha]
  exact ⟨_, rfl, now o k (.int _) h⟩
def gToInt : D → (Rs → Prop) → Prop
  | .int i, Q => Q (.sh (.int i))
  | .bl b, Q => Q (.sh (.int (if b then 1 else 0)))
  | _, _ => False
theorem unw_int : UnW R K (fun x H Q => (∃ i, [x] = [V.int i] ∧ Q (.int i) H) ∨ ∃ k, [x] = [V.bl k] ∧ Q (.int (if k then 1 else 0)) H) gToInt := by
  intro F H x a Q Q' o ha h k
  cases a <;> first | exact h.elim | skip
  · rw [top_bl ha]
    exact .inr ⟨_, rfl, now o k (.int _) h⟩
  · rw [top_int ha]
    exact .inl ⟨_, rfl, now o k (.int _) h⟩
def gMin : D → D → (Rs → Prop) → Prop
  | .int i, .int j, Q => ∀ x : Int, x ≤ i → x ≤ j → (x = i ∨ x = j) → Q (.sh (.int x))
  | _, _, _ => False
def gMax : D → D → (Rs → Prop) → Prop
  | .int i, .int j, Q => ∀ x : Int, i ≤ x → j ≤ x → (x = i ∨ x = j) → Q (.sh (.int x))
  | _, _, _ => False
theorem opw_min : OpW R K (fun x y H Q => ∃ i j, [x, y] = [V.int i, V.int j] ∧ Q (.int (if j < i then j else i)) H) gMin := by
  intro F H x y a b Q Q' o ha hb q k
  cases a <;> cases b <;> first | exact q.elim | skip
  rw [top_int ha, top_int hb]
  refine ⟨_, _, rfl, now o k (.int _) (q _ ?_ ?_ ?_)⟩ <;> split <;> omega
theorem opw_max : OpW R K (fun x y H Q => ∃ i j, [x, y] = [V.int i, V.int j] ∧ Q (.int (if j > i then j else i)) H) gMax := by
  intro F H x y a b Q Q' o ha hb q k
  cases a <;> cases b <;> first | exact q.elim | skip
  rw [top_int ha, top_int hb]
  refine ⟨_, _, rfl, now o k (.int _) (q _ ?_ ?_ ?_)⟩ <;> split <;> omega
def gList : D → (Rs → Prop) → Prop
  | .tup ds, Q => Q (.nw ds)
  | .lst ds, Q => Q (.nw ds)
  | _, _ => False
theorem unw_list : UnW R K (fun x H Q => ∃ p ys, [x] = [V.ref p] ∧ (SqL K H p ys ∨ SqT K H p ys) ∧ ∀ l, H l = none → Q (.ref l) (upd H l (.lst ys))) gList := by
  intro F H x a Q Q' o ha h k
  cases a <;> first | exact h.elim | skip
  · obtain ⟨p, xs, rfl, hx, r⟩ := top_tup o ha
    exact ⟨p, xs, rfl, .inr hx, fun l hl => newL o k r h hl⟩
  · obtain ⟨p, xs, rfl, hx, _, r⟩ := top_lst o ha
    exact ⟨p, xs, rfl, .inl (SqL.of hx), fun l hl => newL o k r h hl⟩
def gTuple : D → (Rs → Prop) → Prop
  | .tup ds, Q => Q (.sh (.tup ds))
  | .lst ds, Q => Q (.sh (.tup ds))
  | _, _ => False
theorem unw_tuple : UnW R K (fun x H Q => ∃ p ys, [x] = [V.ref p] ∧ ((SqL K H p ys ∧ ∀ l, H l = none → Q (.ref l) (upd H l (.tup ys))) ∨ (SqT K H p ys ∧ Q (.ref p) H))) gTuple := by
  intro F H x a Q Q' o ha h k
  cases a <;> first | exact h.elim | skip
  · have f := frz_tup ha
    obtain ⟨p, xs, rfl, hx, r⟩ := top_tup o ha
    exact ⟨p, xs, rfl, .inr ⟨hx, now o k f h⟩⟩
  · obtain ⟨p, xs, rfl, hx, _, r⟩ := top_lst o ha
    exact ⟨p, xs, rfl, .inl ⟨SqL.of hx, fun l hl => newT o k r h hl⟩⟩
/-- a list of ints -/
def D.ints : List D → Option (List Int)
  | [] => some []
  | .int i :: ds => (D.ints ds).map (i :: ·)
  | _ => none
theorem ints_map : ∀ ns : List Int, D.ints (ns.map D.int) = some ns
  | [] => rfl
  | n :: ns => by
    show (D.ints (ns.map D.int)).map (n :: ·) = _
    rw [ints_map ns]
    rfl
theorem ints_of {F : Hp} : ∀ {xs : List V} {ds : List D} {ns : List Int}, RvA K F xs ds → D.ints ds = some ns → xs = ns.map V.int
  | _, _, _, .nil, h => by cases h; rfl
  | _, _, ns, .cons (d := d) (ds := ds) r rs, h => by
    cases d <;> first | cases h | skip
    have h : (D.ints ds).map (_ :: ·) = some ns := h
    obtain ⟨ms, h1, rfl⟩ := Option.map_eq_some_iff.mp h
    cases r
    rw [ints_of rs h1]
    rfl
def gSum : D → (Rs → Prop) → Prop
  | .lst ds, Q => gOpt (D.ints ds) fun ns => Q (.sh (.int ns.sum))
  | _, _ => False
theorem unw_sum : UnW R K (fun x => rSum K [x]) gSum := by
  intro F H x a Q Q' o ha h k
  cases a <;> first | exact h.elim | skip
  obtain ⟨ns, h1, h2⟩ := gOpt_ex h
  obtain ⟨p, xs, rfl, hx, _, r⟩ := top_lst o ha
  have e := ints_of r h1
  subst e
  exact ⟨p, ns, rfl, SqL.of hx, now o k (.int _) h2⟩
mutual
theorem data_noDict : ∀ {d : D} {x : PyData}, d.data = some x → x.hasDict = false
  | .non, _, h => by cases h; rfl
  | .bl _, _, h => by cases h; rfl
  | .int _, _, h => by cases h; rfl
  | .str _, _, h => by cases h; rfl
  | .tup ds, _, h => by
    have h : (D.dataAll ds).map PyData.tuple = some _ := h
    obtain ⟨xs, hx, rfl⟩ := Option.map_eq_some_iff.mp h
    exact dataAll_noDict hx
  | .lst ds, _, h => by
    have h : (D.dataAll ds).map PyData.list = some _ := h
    obtain ⟨xs, hx, rfl⟩ := Option.map_eq_some_iff.mp h
    exact dataAll_noDict hx
  | .ref _, _, h => by cases h
  | .ty _, _, h => by cases h
  | .fls _, _, h => by cases h
  | .obj _ _, _, h => by cases h
  | .dk _, _, h => by cases h
theorem dataAll_noDict : ∀ {ds : List D} {xs : List PyData}, D.dataAll ds = some xs → PyData.hasDictAll xs = false
  | [], _, h => by cases h; rfl
  | d :: ds, xs, h => by
    unfold D.dataAll at h
    cases e1 : D.data d with
    | none => rw [e1] at h; cases h
    | some x =>
      cases e2 : D.dataAll ds with
      | none => rw [e1, e2] at h; cases h
      | some ys =>
        rw [e1, e2] at h
        cases h
        show (x.hasDict || PyData.hasDictAll ys) = false
        rw [data_noDict e1, dataAll_noDict e2]
        rfl
end
def rRepr (K : PySem.W.Frag) : List V → Hp → VK → Prop := fun xs H Q => (∃ a d, xs = [.ref a] ∧ Dp K H (.ref a) d ∧ d.hasDict = false ∧ d.showable = true ∧ d.depth ≤ 64 ∧ d.shown.length ≤ sizeLine ∧ Q (.str d.shown) H) ∨
  ∃ b : Bool, xs = [.bl b] ∧ Q (.str (if b then "True" else "False")) H
theorem cr_repr {X : Cx} (hg : X.A.guards = some []) (hu : X.A.units + 100 < cLine) : CallR X (.builtin "repr") (rRepr X.K) := by
  intro pins s σ H xs us Q I r h
  rcases h with ⟨a, d, rfl, hd, h0, h1, h2, h3, q⟩ | ⟨b, rfl, q⟩
  · obtain ⟨u, rfl, ru⟩ := vals1 r
    obtain ⟨as, rd⟩ := Dp.reads I d (.ref a) u hd ru
    cases ru
    refine repr_of_reads' rd h1 (fun e => ?_) hg (by omega) (fun _ _ e => e) (fun h' t tk hk => ?_) h3
    · rw [h0] at e; cases e
    · exact ⟨.str d.shown, H, I.kept hk, ⟨t, rfl⟩, q⟩
  · obtain ⟨u, rfl, ru⟩ := vals1 r
    cases ru
    exact PySem.P.repr_of_bool ⟨.str (if b then "True" else "False"), H, I.tok _, ⟨_, rfl⟩, q⟩
def ReprOk (x : PyData) : Prop := x.showable = true ∧ x.depth ≤ 64 ∧ x.shown.length ≤ sizeLine
def gRepr : D → (Rs → Prop) → Prop
  | .bl b, Q => Q (.sh (.str (if b then "True" else "False")))
  | .tup ds, Q => gOpt (D.data (.tup ds)) fun x => ReprOk x ∧ Q (.sh (.str x.shown))
  | .lst ds, Q => gOpt (D.data (.lst ds)) fun x => ReprOk x ∧ Q (.sh (.str x.shown))
  | _, _ => False
theorem unw_repr : UnW R K (fun x => rRepr K [x]) gRepr := by
  intro F H x a Q Q' o ha h k
  cases a <;> first | exact h.elim | skip
  · rw [top_bl ha]
    exact .inr ⟨_, rfl, now o k (.str _) h⟩
  · obtain ⟨y, h1, ⟨h2, h3, h4⟩, q⟩ := gOpt_ex h
    have dp := ha.dp o h1
    obtain ⟨p, xs, rfl, hx, r⟩ := top_tup o ha
    exact .inl ⟨p, y, rfl, dp, data_noDict h1, h2, h3, h4, now o k (.str _) q⟩
  · obtain ⟨y, h1, ⟨h2, h3, h4⟩, q⟩ := gOpt_ex h
    have dp := ha.dp o h1
    obtain ⟨p, xs, rfl, hx, _, r⟩ := top_lst o ha
    exact .inl ⟨p, y, rfl, dp, data_noDict h1, h2, h3, h4, now o k (.str _) q⟩

/-! ### tests -/
def gBl : Rs → (Bool → Prop) → Prop
  | .sh (.bl b), Q => Q b
  | _, _ => False
theorem gBl_ex {r : Rs} {Q : Bool → Prop} (h : gBl r Q) : ∃ b, r = .sh (.bl b) ∧ Q b := by
  unfold gBl at h
  split at h
  · exact ⟨_, rfl, h⟩
  · exact h.elim
def wTest (w : WE) : WT := fun env Xn Q => w env Xn fun r => gBl r Q
theorem etw_test {te : TE} {w : WE} (h : EvW R K E te w) : EtW R K E (tTest te) (wTest w) := by
  intro F0 H0 env σ F H Xn Q Q' t ws q k
  refine h F0 H0 env σ F H Xn _ _ t ws q fun v r F' H' s o rr q' => ?_
  obtain ⟨b, rfl, q'⟩ := gBl_ex q'
  cases rr
  exact ⟨_, rfl, k _ F' H' s o q'⟩
theorem etw_B {te : TE} {w : WE} (h : EvW R K E te w) : EtW R K E (tB te) (wTest w) := by
  intro F0 H0 env σ F H Xn Q Q' t ws q k
  refine h F0 H0 env σ F H Xn _ _ t ws q fun v r F' H' s o rr q' => ?_
  obtain ⟨b, rfl, q'⟩ := gBl_ex q'
  cases rr
  exact ⟨_, rfl, k _ F' H' s o q'⟩
def wAnd (wa wb : WT) : WT := fun env Xn Q => wa env Xn fun b => if b = true then wb env Xn Q else Q false
def wOr (wa wb : WT) : WT := fun env Xn Q => wa env Xn fun b => if b = true then Q true else wb env Xn Q
def wNot (wa : WT) : WT := fun env Xn Q => wa env Xn fun b => Q (!b)
theorem etw_and {ta tb : TT} {wa wb : WT} (ha : EtW R K E ta wa) (hb : EtW R K E tb wb) : EtW R K E (tAnd ta tb) (wAnd wa wb) := by
  intro F0 H0 env σ F H Xn Q Q' t ws q k
  refine ha F0 H0 env σ F H Xn _ _ t ws q fun b F1 H1 s o q1 => ?_
  cases b with
  | true =>
    show tb σ H1 Q
    exact hb F0 H0 env σ F1 H1 Xn _ _ (t.step s o) ws q1 fun b F2 H2 s2 o2 q2 => k b F2 H2 (s.trans s2) o2 q2
  | false => exact k false F1 H1 s o q1
theorem etw_or {ta tb : TT} {wa wb : WT} (ha : EtW R K E ta wa) (hb : EtW R K E tb wb) : EtW R K E (tOr ta tb) (wOr wa wb) := by
  intro F0 H0 env σ F H Xn Q Q' t ws q k
  refine ha F0 H0 env σ F H Xn _ _ t ws q fun b F1 H1 s o q1 => ?_
  cases b with
  | false =>
    show tb σ H1 Q
    exact hb F0 H0 env σ F1 H1 Xn _ _ (t.step s o) ws q1 fun b F2 H2 s2 o2 q2 => k b F2 H2 (s.trans s2) o2 q2
  | true => exact k true F1 H1 s o q1
theorem etw_not {ta : TT} {wa : WT} (ha : EtW R K E ta wa) : EtW R K E (tNot ta) (wNot wa) := by
  intro F0 H0 env σ F H Xn Q Q' t ws q k
  exact ha F0 H0 env σ F H Xn _ _ t ws q fun b F1 H1 s o q1 => k (!b) F1 H1 s o q1
/-- truth of a value -/
def gTru : D → (Bool → Prop) → Prop
  | .non, Q => Q false
  | .bl b, Q => Q b
  | .int i, Q => Q (i != 0)
  | .str z, Q => z.length ≤ sizeLine ∧ Q ((z.length : Int) != 0)
  | .tup ds, Q => Q (!ds.isEmpty)
  | .lst ds, Q => Q (!ds.isEmpty)
  | _, _ => False
theorem rva_empty {F : Hp} {xs : List V} {ds : List D} (r : RvA K F xs ds) : (!xs.isEmpty) = !ds.isEmpty := by
  cases r <;> rfl
theorem tru_of {F H : Hp} {x : V} {a : D} {Q : Bool → Prop} (o : Ok R F H) (ha : RvT R K F H x a) (h : gTru a Q) : ∃ b, TruV K x H b ∧ Q b := by
  unfold gTru at h
  split at h
  · rw [top_non ha]; exact ⟨_, rfl, h⟩
  · rw [top_bl ha]; exact ⟨_, rfl, h⟩
  · rw [top_int ha]; exact ⟨_, rfl, h⟩
  · rw [top_str ha]; exact ⟨_, ⟨h.1, rfl⟩, h.2⟩
  · obtain ⟨p, xs, rfl, hx, r⟩ := top_tup o ha
    exact ⟨_, .inr (.inl ⟨xs, hx, rfl⟩), by rw [rva_empty r]; exact h⟩
  · obtain ⟨p, xs, rfl, hx, _, r⟩ := top_lst o ha
    exact ⟨_, .inl ⟨xs, SqL.of hx, rfl⟩, by rw [rva_empty r]; exact h⟩
  · exact h.elim
def wTru (w : WE) : WT := fun env Xn Q => w env Xn fun r => gTru r.val Q
theorem etw_tru {te : TE} {w : WE} (h : EvW R K E te w) : EtW R K E (fun σ H Q => te σ H fun x H' => ∃ k, TruV K x H' k ∧ Q k H') (wTru w) := by
  intro F0 H0 env σ F H Xn Q Q' t ws q k
  refine h F0 H0 env σ F H Xn _ _ t ws q fun v r F' H' s o rr q' => ?_
  obtain ⟨b, h1, h2⟩ := tru_of o rr.top q'
  exact ⟨b, h1, k _ F' H' s o h2⟩
/-! values: and, or, not of bools; a if t else b -/
def wAndV (wa wb : WE) : WE := fun env Xn Q => wa env Xn fun r => gBl r fun b => if b = true then wb env Xn Q else Q (.sh (.bl false))
def wOrV (wa wb : WE) : WE := fun env Xn Q => wa env Xn fun r => gBl r fun b => if b = true then Q (.sh (.bl true)) else wb env Xn Q
def wNotV (wa : WE) : WE := fun env Xn Q => wa env Xn fun r => gBl r fun b => Q (.sh (.bl (!b)))
theorem evw_and {ta tb : TE} {wa wb : WE} (ha : EvW R K E ta wa) (hb : EvW R K E tb wb) : EvW R K E (tAndV ta tb) (wAndV wa wb) := by
  intro F0 H0 env σ F H Xn Q Q' t ws q k
  refine ha F0 H0 env σ F H Xn _ _ t ws q fun v r F1 H1 s o rr q1 => ?_
  obtain ⟨b, rfl, q1⟩ := gBl_ex q1
  cases rr
  refine ⟨b, rfl, ?_⟩
  cases b with
  | true =>
    show tb σ H1 Q
    exact hb F0 H0 env σ F1 H1 Xn _ _ (t.step s o) ws q1 fun v r F2 H2 s2 o2 rr2 q2 => k v r F2 H2 (s.trans s2) o2 (rr2.back s) q2
  | false => exact k _ (.sh (.bl false)) F1 H1 s o (.bl _) q1
theorem evw_or {ta tb : TE} {wa wb : WE} (ha : EvW R K E ta wa) (hb : EvW R K E tb wb) : EvW R K E (tOrV ta tb) (wOrV wa wb) := by
  intro F0 H0 env σ F H Xn Q Q' t ws q k
  refine ha F0 H0 env σ F H Xn _ _ t ws q fun v r F1 H1 s o rr q1 => ?_
  obtain ⟨b, rfl, q1⟩ := gBl_ex q1
  cases rr
  refine ⟨b, rfl, ?_⟩
  cases b with
  | false =>
    show tb σ H1 Q
    exact hb F0 H0 env σ F1 H1 Xn _ _ (t.step s o) ws q1 fun v r F2 H2 s2 o2 rr2 q2 => k v r F2 H2 (s.trans s2) o2 (rr2.back s) q2
  | true => exact k _ (.sh (.bl true)) F1 H1 s o (.bl _) q1
theorem evw_not {ta : TE} {wa : WE} (ha : EvW R K E ta wa) : EvW R K E (tNotV ta) (wNotV wa) := by
  intro F0 H0 env σ F H Xn Q Q' t ws q k
  refine ha F0 H0 env σ F H Xn _ _ t ws q fun v r F1 H1 s o rr q1 => ?_
  obtain ⟨b, rfl, q1⟩ := gBl_ex q1
  cases rr
  exact ⟨b, rfl, k _ (.sh (.bl (!b))) F1 H1 s o (.bl _) q1⟩
def wIf (wt : WT) (wa wb : WE) : WE := fun env Xn Q => wt env Xn fun b => if b = true then wa env Xn Q else wb env Xn Q
theorem evw_if {tt : TT} {ta tb : TE} {wt : WT} {wa wb : WE} (ht : EtW R K E tt wt) (ha : EvW R K E ta wa) (hb : EvW R K E tb wb) : EvW R K E (tIf tt ta tb) (wIf wt wa wb) := by
  intro F0 H0 env σ F H Xn Q Q' t ws q k
  refine ht F0 H0 env σ F H Xn _ _ t ws q fun b F1 H1 s o q1 => ?_
  cases b with
  | true =>
    show ta σ H1 Q
    exact ha F0 H0 env σ F1 H1 Xn _ _ (t.step s o) ws q1 fun v r F2 H2 s2 o2 rr2 q2 => k v r F2 H2 (s.trans s2) o2 (rr2.back s) q2
  | false =>
    show tb σ H1 Q
    exact hb F0 H0 env σ F1 H1 Xn _ _ (t.step s o) ws q1 fun v r F2 H2 s2 o2 rr2 q2 => k v r F2 H2 (s.trans s2) o2 (rr2.back s) q2
/-- a < b < c -/
def wChain (g g' : D → D → (Rs → Prop) → Prop) (wa wb wc : WE) : WE := fun env Xn Q => wa env Xn fun a => wb env Xn fun b => g a.val b.val fun r => gBl r fun k => if k = true then wc env Xn fun c => g' b.val c.val Q else Q (.sh (.bl false))
theorem evw_chain {ta tb tc : TE} {wa wb wc : WE} {r r' : R2} {g g' : D → D → (Rs → Prop) → Prop} (hr : OpW R K r g) (hr' : OpW R K r' g') (ha : EvW R K E ta wa) (hb : EvW R K E tb wb) (hc : EvW R K E tc wc) :
    EvW R K E (tChain r r' ta tb tc) (wChain g g' wa wb wc) := by
  intro F0 H0 env σ F H Xn Q Q' t ws h k
  refine ha F0 H0 env σ F H Xn _ _ t ws h fun v1 r1 F1 H1 s1 o1 rr1 q1 => ?_
  refine hb F0 H0 env σ F1 H1 Xn _ _ (t.step s1 o1) ws q1 fun v2 r2 F2 H2 s2 o2 rr2 q2 => ?_
  have s12 := s1.trans s2
  refine hr F2 H2 _ _ _ _ _ _ o2 (rr1.top.step s2) rr2.top q2 fun v s F3 H3 s3 o3 rr q => ?_
  obtain ⟨b, rfl, q⟩ := gBl_ex q
  cases rr
  refine ⟨b, rfl, ?_⟩
  cases b with
  | true =>
    show tc σ H3 _
    refine hc F0 H0 env σ F3 H3 Xn _ _ (t.step (s12.trans s3) o3) ws q fun v4 r4 F4 H4 s4 o4 rr4 q4 => ?_
    refine hr' F4 H4 _ _ _ _ _ _ o4 (rr2.top.step (s3.trans s4)) rr4.top q4 fun v s F5 H5 s5 o5 rr q5 => ?_
    exact k v s F5 H5 (((s12.trans s3).trans s4).trans s5) o5 (rr.back ((s12.trans s3).trans s4)) q5
  | false => exact k _ (.sh (.bl false)) F3 H3 (s12.trans s3) o3 (.bl _) q

/-! ### arguments, displays -/
def wNil : WA := fun _ _ Q => Q []
def wCons (we : WE) (wr : WA) : WA := fun env Xn Q => we env Xn fun r => fzW r fun d => wr env Xn fun ds => Q (d :: ds)
theorem eaw_nil : EaW R K E tNil wNil := by
  intro F0 H0 env σ F H Xn Q Q' t ws h k
  exact k [] [] F H .refl t.ok .nil h
theorem eaw_cons {te : TE} {tr : TA} {we : WE} {wr : WA} (he : EvW R K E te we) (hr : EaW R K E tr wr) : EaW R K E (tCons te tr) (wCons we wr) := by
  intro F0 H0 env σ F H Xn Q Q' t ws h k
  refine he F0 H0 env σ F H Xn _ _ t ws h fun v r F1 H1 s1 o1 rr q1 => ?_
  obtain ⟨d, F2, s2, o2, rv, q2⟩ := rr.fz s1 o1 q1
  refine hr F0 H0 env σ F2 H1 Xn _ _ (t.step s2 o2) ws q2 fun vs ds F3 H3 s3 o3 rs q3 => ?_
  exact k _ _ F3 H3 (s2.trans s3) o3 (.cons (rv.mono s3.ex) rs) q3
def wTup (wa : WA) : WE := fun env Xn Q => wa env Xn fun ds => ds.length ≤ sizeLine ∧ Q (.sh (.tup ds))
def wLst (wa : WA) : WE := fun env Xn Q => wa env Xn fun ds => ds.length ≤ sizeLine ∧ Q (.nw ds)
theorem evw_tup {ta : TA} {wa : WA} (h : EaW R K E ta wa) : EvW R K E (tTup ta) (wTup wa) := by
  intro F0 H0 env σ F H Xn Q Q' t ws q k
  refine h F0 H0 env σ F H Xn _ _ t ws q fun vs ds F1 H1 s1 o1 r q1 => ?_
  refine ⟨by rw [r.length]; exact q1.1, fun p hp => ?_⟩
  exact k _ (.sh (.tup ds)) _ _ (s1.trans (o1.newS hp)) (o1.newF hp) (Rv.tup (SqT.of upd_same) (r.mono (Same.updF (o1.notF hp)))) q1.2
theorem evw_lst {ta : TA} {wa : WA} (h : EaW R K E ta wa) : EvW R K E (tLst ta) (wLst wa) := by
  intro F0 H0 env σ F H Xn Q Q' t ws q k
  refine h F0 H0 env σ F H Xn _ _ t ws q fun vs ds F1 H1 s1 o1 r q1 => ?_
  refine ⟨by rw [r.length]; exact q1.1, fun p hp => ?_⟩
  exact k _ (.nw ds) _ _ (s1.trans (o1.newT hp)) (o1.newO hp) ⟨p, vs, rfl, s1.fresh hp, upd_same, o1.notF hp, o1.notA hp, r⟩ q1.2

/-! ### fields -/
def Att (K : PySem.W.Frag) (C : Addr) (f : Str) : Prop := Cls K C ∧ NoAttr K C f
def fldD (gs : List (Str × D)) (f : Str) : Option D := (gs.find? fun kv => decide (kv.1 = f)).map (·.2)
theorem lookup_rel {F : Hp} {f : Str} : ∀ {fs : List (Str × V)} {gs : List (Str × D)}, fs.map (·.1) = gs.map (·.1) → RvA K F (fs.map (·.2)) (gs.map (·.2)) → ∀ d, fldD gs f = some d → ∃ v, fs.lookup f = some v ∧ Rv K F v d
  | [], [], _, _, d, h => by cases h
  | [], _ :: _, h, _, _, _ => by cases h
  | _ :: _, [], h, _, _, _ => by cases h
  | (k1, v1) :: fs, (k2, d2) :: gs, h, r, d, q => by
    simp only [List.map_cons, List.cons.injEq] at h
    obtain ⟨h1, h2⟩ := h
    simp only [List.map_cons] at r
    cases r with
    | cons p r =>
      subst h1
      by_cases e : k1 = f
      · subst e
        have q : (some d2 : Option D) = some d := by simpa [fldD, List.find?_cons] using q
        cases q
        exact ⟨v1, by simp [List.lookup_cons], p⟩
      · have e2 : fldD ((k1, d2) :: gs) f = fldD gs f := by simp [fldD, List.find?_cons, e]
        rw [e2] at q
        obtain ⟨v, h3, h4⟩ := lookup_rel h2 r d q
        refine ⟨v, ?_, h4⟩
        rw [List.lookup_cons, show (f == k1) = false from beq_eq_false_iff_ne.mpr (Ne.symm e)]
        exact h3
def gFld (Cs : List Addr) (f : Str) : D → (Rs → Prop) → Prop
  | .obj C gs, Q => C ∈ Cs ∧ gOpt (fldD gs f) fun d => Q (.sh d)
  | _, _ => False
def wFld (Cs : List Addr) (f : Str) (wa : WE) : WE := wUn (gFld Cs f) wa
theorem evw_fld {ta : TE} {wa : WE} {Cs : List Addr} {f : Str} (hA : ∀ C ∈ Cs, Att K C f) (ha : EvW R K E ta wa) : EvW R K E (tFld K ta f) (wFld Cs f wa) := by
  intro F0 H0 env σ F H Xn Q Q' t ws h k
  refine ha F0 H0 env σ F H Xn _ _ t ws h fun v1 r1 F1 H1 s1 o1 rr1 q1 => ?_
  unfold gFld at q1
  split at q1
  · rename_i C gs e
    obtain ⟨hC, q1⟩ := q1
    obtain ⟨d, h1, h2⟩ := gOpt_ex q1
    have tp := rr1.top
    rw [e] at tp
    obtain ⟨p, dx, fs, rfl, hF, hH, ek, r⟩ := top_obj o1 tp
    obtain ⟨v, h3, h4⟩ := lookup_rel ek r d h1
    exact ⟨p, C, dx, fs, v, rfl, hH, (hA C hC).1, (hA C hC).2, h3, k v (.sh d) F1 H1 s1 o1 h4 h2⟩
  · exact q1.elim
/-! ### slices -/
abbrev WO := Env → (Exn → Prop) → (Option Int → Prop) → Prop
def EoW (R : Res) (K : PySem.W.Frag) (E : XK) (t : TO) (w : WO) : Prop :=
  ∀ F0 H0 env σ F H Xn (Q : Option Int → Hp → Prop) (Q' : Option Int → Prop), Sta R K F0 H0 env σ F H → Wish R K F0 H0 E Xn → w env Xn Q' →
    (∀ o F' H', Stp R F H F' H' → Ok R F' H' → Q' o → Q o H') → t σ H Q
def wNoPart : WO := fun _ _ Q => Q none
def gInt1 : Rs → (Int → Prop) → Prop
  | .sh (.int i), Q => Q i
  | _, _ => False
theorem gInt1_ex {r : Rs} {Q : Int → Prop} (h : gInt1 r Q) : ∃ i, r = .sh (.int i) ∧ Q i := by
  unfold gInt1 at h
  split at h
  · exact ⟨_, rfl, h⟩
  · exact h.elim
def wPart (we : WE) : WO := fun env Xn Q => we env Xn fun r => gInt1 r fun i => Q (some i)
theorem eow_none : EoW R K E tNoPart wNoPart := by
  intro F0 H0 env σ F H Xn Q Q' t ws h k
  exact k none F H .refl t.ok h
theorem eow_some {te : TE} {we : WE} (he : EvW R K E te we) : EoW R K E (tPart te) (wPart we) := by
  intro F0 H0 env σ F H Xn Q Q' t ws h k
  refine he F0 H0 env σ F H Xn _ _ t ws h fun v r F1 H1 s1 o1 rr q1 => ?_
  obtain ⟨i, rfl, q1⟩ := gInt1_ex q1
  cases rr
  exact ⟨_, rfl, k _ F1 H1 s1 o1 q1⟩
def cutD {α : Type} (xs : List α) (lo hi : Option Int) : List α := (xs.drop (HT.sIx xs.length 0 lo)).take (HT.sIx xs.length xs.length hi - HT.sIx xs.length 0 lo)
def gSl : D → Option Int → Option Int → (Rs → Prop) → Prop
  | .lst ds, lo, hi, Q => Q (.nw (cutD ds lo hi))
  | .tup ds, lo, hi, Q => Q (.sh (.tup (cutD ds lo hi)))
  | _, _, _, _ => False
def rSlX (K : PySem.W.Frag) : V → Option Int → Option Int → Hp → VK → Prop := fun x lo hi H Q => rSlL K x lo hi H Q ∨ rSlA K x lo hi H Q
theorem slr_all {X : Cx} : SlR X (rSlX X.K) := sl_list.or sl_tupA
def wSl (wa : WE) (wl wh : WO) : WE := fun env Xn Q => wa env Xn fun a => wl env Xn fun l => wh env Xn fun h => gSl a.val l h Q
theorem cutD_all {α : Type} {ds : List α} {lo hi : Option Int} (h : HT.sIx ds.length 0 lo = 0 ∧ HT.sIx ds.length ds.length hi = ds.length) : cutD ds lo hi = ds := by
  unfold cutD
  rw [h.1, h.2]
  simp
theorem evw_sl {ta : TE} {tl th : TO} {wa : WE} {wl wh : WO} (ha : EvW R K E ta wa) (hl : EoW R K E tl wl) (hh : EoW R K E th wh) : EvW R K E (tSl (rSlX K) ta tl th) (wSl wa wl wh) := by
  intro F0 H0 env σ F H Xn Q Q' t ws h k
  refine ha F0 H0 env σ F H Xn _ _ t ws h fun v1 r1 F1 H1 s1 o1 rr1 q1 => ?_
  refine hl F0 H0 env σ F1 H1 Xn _ _ (t.step s1 o1) ws q1 fun lo F2 H2 s2 o2 q2 => ?_
  refine hh F0 H0 env σ F2 H2 Xn _ _ (t.step (s1.trans s2) o2) ws q2 fun hi F3 H3 s3 o3 q3 => ?_
  have s13 := (s1.trans s2).trans s3
  have tp := rr1.top.step (s2.trans s3)
  unfold gSl at q3
  split at q3
  · rename_i ds e
    rw [e] at tp
    obtain ⟨p, xs, rfl, hx, _, r⟩ := top_lst o3 tp
    refine .inl ⟨p, xs, rfl, SqL.of hx, fun q hq => ?_⟩
    refine k _ (.nw _) _ _ (s13.trans (o3.newT hq)) (o3.newO hq) ⟨q, _, rfl, s13.fresh hq, upd_same, o3.notF hq, o3.notA hq, ?_⟩ q3
    unfold cutV cutD
    rw [r.length]
    exact (r.drop _).take _
  · rename_i ds e
    rw [e] at tp
    have f := frz_tup tp
    obtain ⟨p, xs, rfl, hx, r⟩ := top_tup o3 tp
    refine .inr ⟨p, xs, rfl, hx, fun e => ?_, fun e q hq => ?_⟩
    · rw [r.length] at e
      rw [cutD_all e] at q3
      exact k _ (.sh _) F3 H3 s13 o3 f q3
    · refine k _ (.sh _) _ _ (s13.trans (o3.newS hq)) (o3.newF hq) (Rv.tup (SqT.of upd_same) ?_) q3
      unfold cutV cutD
      rw [r.length]
      exact ((r.drop _).take _).mono (Same.updF (o3.notF hq))
  · exact q3.elim
end
end VH

set_option Elab.async false
set_option maxRecDepth 100000
set_option linter.all false
set_option maxHeartbeats 2000000
namespace VH
open PySem L2

section
variable {R : Res} {K : PySem.W.Frag} {E : XK}
/-! ### blocks -/
def wSeq (a b : WS) : WS := fun env D => a env { D with nx := fun e => b e D }
def wNext : WS := fun env D => D.nx env
theorem esw_next : EsW R K E tNext wNext := by
  intro F0 H0 env σ F H D D' t ws e h
  exact e.nx env σ F H t h
theorem esw_seq {t1 t2 : TS} {w1 w2 : WS} (h1 : EsW R K E t1 w1) (h2 : EsW R K E t2 w2) : EsW R K E (tSeq t1 t2) (wSeq w1 w2) := by
  intro F0 H0 env σ F H D D' t ws e h
  refine h1 F0 H0 env σ F H _ { D' with nx := fun en => w2 en D' } t ws ⟨fun env2 σ2 F2 H2 t2 q => ?_, e.bk, e.ct, e.rt⟩ h
  exact h2 F0 H0 env2 σ2 F2 H2 D D' t2 ws e q
def wFrz (i : Nat) (w : WS) : WS := fun env D => w (frz i env) D
theorem esw_frz {i : Nat} {t1 : TS} {w : WS} (h : EsW R K E t1 w) : EsW R K E t1 (wFrz i w) := by
  intro F0 H0 env σ F H D D' t ws e q
  obtain ⟨F', _, t'⟩ := t.frz i
  exact h F0 H0 _ σ F' H D D' t' ws e q
def wDrop (we : WE) : WS := fun env D => we env D.xn fun _ => D.nx env
theorem esw_drop {te : TE} {we : WE} (h : EvW R K E te we) : EsW R K E (tDrop te) (wDrop we) := by
  intro F0 H0 env σ F H D D' t ws e q
  refine h F0 H0 env σ F H _ _ _ t ws q fun v r F' H' s o rr q' => ?_
  exact e.nx env σ F' H' (t.step s o) q'
def wRet (we : WE) : WS := fun env D => we env D.xn D.rt
theorem esw_ret {te : TE} {we : WE} (h : EvW R K E te we) : EsW R K E (tRet te) (wRet we) := by
  intro F0 H0 env σ F H D D' t ws e q
  refine h F0 H0 env σ F H _ _ _ t ws q fun v r F' H' s o rr q' => ?_
  exact e.rt v r F' H' (t.stp.trans s) o (rr.back t.stp) q'
/-- return x: an own list of x is new for the caller -/
def gRetV : Slot → (Rs → Prop) → Prop
  | .sh d, Q => Q (.sh d)
  | .ow ds, Q => Q (.nw ds)
  | .od kvs, Q => Q (.nd kvs)
  | .oi C _ gs, Q => Q (.sh (.obj C gs))
  | .un, _ => False
def wRetV (i : Nat) : WS := fun env D => gRetV (get env i) D.rt
theorem esw_retV {i : Nat} : EsW R K E (tRet (tVar i)) (wRetV i) := by
  intro F0 H0 env σ F H D D' t ws e q
  have z := t.sl i
  unfold wRetV at q
  cases hs : get env i with
  | un => rw [hs] at q; exact q.elim
  | sh d =>
    rw [hs] at z q
    obtain ⟨v, z1, z2⟩ := z
    exact ⟨v, z1, e.rt v (.sh d) F H t.stp t.ok z2 q⟩
  | ow ds =>
    rw [hs] at z q
    obtain ⟨p, xs, z1, z2, z3, z4, z5, z6⟩ := z
    exact ⟨_, z1, e.rt _ (.nw ds) F H t.stp t.ok ⟨p, xs, rfl, z2, z5, z3, z4, z6⟩ q⟩
  | od gs =>
    rw [hs] at z q
    obtain ⟨p, xs, z1, z2, z3, z4, z5, z6, z7⟩ := z
    exact ⟨_, z1, e.rt _ (.nd gs) F H t.stp t.ok ⟨p, xs, rfl, z2, z5, z3, z4, z6, z7⟩ q⟩
  | oi C a gs =>
    rw [hs] at z q
    obtain ⟨p, dx, xs, ⟨z1, _⟩, z2, z3, z4, z5, z6, z7⟩ := z
    exact ⟨_, z1, e.rt _ (.sh (.obj C gs)) (upd F p _) H (t.stp.frz z2 z3) (t.ok.freeze z5 z3 z4) (.obj upd_same z6 (z7.mono (Same.updF z3))) q⟩
def wRetN : WS := fun _ D => D.rt (.sh .non)
theorem esw_retN : EsW R K E tRetN wRetN := by
  intro F0 H0 env σ F H D D' t ws e q
  exact e.rt _ (.sh .non) F H t.stp t.ok .non q
def wBreak : WS := fun env D => D.bk env
def wCont : WS := fun env D => D.ct env
theorem esw_break : EsW R K E tBreak wBreak := by
  intro F0 H0 env σ F H D D' t ws e q
  exact e.bk env σ F H t q
theorem esw_cont : EsW R K E tCont wCont := by
  intro F0 H0 env σ F H D D' t ws e q
  exact e.ct env σ F H t q
def wIfS (wt : WT) (a b : WS) : WS := fun env D => wt env D.xn fun c => if c = true then a env D else b env D
theorem esw_if {tt : TT} {ta tb : TS} {wt : WT} {wa wb : WS} (ht : EtW R K E tt wt) (ha : EsW R K E ta wa) (hb : EsW R K E tb wb) : EsW R K E (tIfS tt ta tb) (wIfS wt wa wb) := by
  intro F0 H0 env σ F H D D' t ws e q
  refine ht F0 H0 env σ F H _ _ _ t ws q fun b F' H' s o q' => ?_
  cases b with
  | true => exact ha F0 H0 env σ F' H' D D' (t.step s o) ws e q'
  | false => exact hb F0 H0 env σ F' H' D D' (t.step s o) ws e q'
/-! ### assignments -/
def wAsg (i : Nat) (we : WE) : WS := fun env D => we env D.xn fun r => slW r fun s => D.nx (put env i s)
theorem esw_asg {i : Nat} {te : TE} {we : WE} (h : EvW R K E te we) : EsW R K E (tAsg te (gName i)) (wAsg i we) := by
  intro F0 H0 env σ F H D D' t ws e q
  refine h F0 H0 env σ F H _ _ _ t ws q fun v r F' H' s o rr q' => ?_
  obtain ⟨sl, t', q2⟩ := t.setR (i := i) s o rr q'
  exact e.nx _ _ F' H' t' q2
/-- targets of a for, of a pair -/
def TgW (R : Res) (K : PySem.W.Frag) (g : TG) (is : List Nat) (wg : D → Env → (Env → Prop) → Prop) : Prop :=
  ∀ F0 H0 env σ F H v d (Q : L2.St → Hp → Prop) (Q' : Env → Prop), Sta R K F0 H0 env σ F H → Rv K F v d → wg d env Q' →
    (∀ env' σ', Sta R K F0 H0 env' σ' F H → (∀ vs : List Nat, (∀ i ∈ is, i ∈ vs) → wipe σ' vs = wipe σ vs) → Q' env' → Q σ' H) → g v σ H Q
def wgN (i : Nat) : D → Env → (Env → Prop) → Prop := fun d env Q => Q (put env i (.sh d))
theorem wipe_get {σ : L2.St} {j : Nat} : ∀ {vs : List Nat}, (wipe σ vs)[j]? = if j ∈ vs ∧ j < σ.length then some none else σ[j]?
  | [] => by simp [wipe]
  | v :: vs => by
    unfold wipe
    by_cases h : v = j
    · subst h
      by_cases hl : v < σ.length
      · rw [List.getElem?_set_self (by rw [wipe_length]; exact hl), if_pos ⟨List.mem_cons_self, hl⟩]
      · rw [List.getElem?_eq_none (by rw [List.length_set, wipe_length]; omega), if_neg fun z => hl z.2, List.getElem?_eq_none (by omega)]
    · rw [List.getElem?_set_ne h, wipe_get (vs := vs)]
      have e : (j ∈ v :: vs ∧ j < σ.length) ↔ (j ∈ vs ∧ j < σ.length) := by
        constructor
        · rintro ⟨m, l⟩
          exact ⟨(List.mem_cons.mp m).resolve_left (Ne.symm h), l⟩
        · rintro ⟨m, l⟩
          exact ⟨List.mem_cons_of_mem _ m, l⟩
      by_cases q : j ∈ vs ∧ j < σ.length
      · rw [if_pos q, if_pos (e.mpr q)]
      · rw [if_neg q, if_neg fun z => q (e.mp z)]
theorem wipe_set {σ : L2.St} {i : Nat} {x : Option V} {vs : List Nat} (h : i ∈ vs) : wipe (σ.set i x) vs = wipe σ vs := by
  apply List.ext_getElem?
  intro j
  rw [wipe_get, wipe_get, List.length_set]
  by_cases q : j ∈ vs ∧ j < σ.length
  · rw [if_pos q, if_pos q]
  · rw [if_neg q, if_neg q]
    by_cases e : i = j
    · subst e
      have hl : ¬ i < σ.length := fun l => q ⟨h, l⟩
      rw [List.getElem?_eq_none (by rw [List.length_set]; omega), List.getElem?_eq_none (by omega)]
    · rw [List.getElem?_set_ne e]
theorem wipe_wipe {σ : L2.St} {vs : List Nat} : wipe (wipe σ vs) vs = wipe σ vs := by
  apply List.ext_getElem?
  intro j
  rw [wipe_get, wipe_length, wipe_get]
  by_cases q : j ∈ vs ∧ j < σ.length
  · rw [if_pos q, if_pos q]
  · rw [if_neg q]
theorem tgw_name {i : Nat} : TgW R K (gName i) [i] (wgN i) := by
  intro F0 H0 env σ F H v d Q Q' t rv q k
  exact k _ _ (t.setS rv) (fun vs h => wipe_set (h i List.mem_cons_self)) q
def TgsW (R : Res) (K : PySem.W.Frag) (g : TGs) (is : List Nat) : Prop :=
  ∀ F0 H0 env σ F H vs ds (Q : L2.St → Hp → Prop), Sta R K F0 H0 env σ F H → RvA K F vs ds → ds.length = is.length →
    (∀ env' σ', Sta R K F0 H0 env' σ' F H → (∀ ws : List Nat, (∀ i ∈ is, i ∈ ws) → wipe σ' ws = wipe σ ws) → env' = (is.zip ds).foldl (fun e p => put e p.1 (.sh p.2)) env → Q σ' H) → g vs σ H Q
theorem tgsw_nil : TgsW R K gNil [] := by
  intro F0 H0 env σ F H vs ds Q t r l k
  have e : ds = [] := List.length_eq_zero_iff.mp l
  subst e
  cases r
  exact ⟨rfl, k env σ t (fun _ _ => rfl) rfl⟩
theorem tgsw_cons {i : Nat} {is : List Nat} {g : TGs} (h : TgsW R K g is) : TgsW R K (gCons (gName i) g) (i :: is) := by
  intro F0 H0 env σ F H vs ds Q t r l k
  cases r with
  | nil => cases l
  | cons rv rs =>
    refine ⟨_, _, rfl, ?_⟩
    refine h F0 H0 _ _ F H _ _ _ (t.setS (i := i) rv) rs (by simpa using l) fun env' σ' t' hw e => ?_
    refine k env' σ' t' (fun ws hh => ?_) ?_
    · rw [hw ws fun j hj => hh j (List.mem_cons_of_mem _ hj), wipe_set (hh i List.mem_cons_self)]
    · rw [e]
      rfl
def wgT (is : List Nat) : D → Env → (Env → Prop) → Prop := fun d env Q => match d with
  | .tup ds => ds.length = is.length ∧ Q ((is.zip ds).foldl (fun e p => put e p.1 (.sh p.2)) env)
  | _ => False
theorem tgw_tup {is : List Nat} {n : Nat} {g : TGs} (hn : is.length = n) (h : TgsW R K g is) : TgW R K (gTup K n g) is (wgT is) := by
  intro F0 H0 env σ F H v d Q Q' t rv q k
  unfold wgT at q
  split at q
  · rename_i ds
    cases rv with
    | tup hq r =>
      refine ⟨_, _, rfl, sqT_mono t.ok.ex hq, by rw [r.length, q.1, hn], ?_⟩
      exact h F0 H0 env σ F H _ _ _ t r q.1 fun env' σ' t' hw e => k env' σ' t' hw (by rw [e]; exact q.2)
  · exact q.elim
def wAsgG (wg : D → Env → (Env → Prop) → Prop) (we : WE) : WS := fun env D => we env D.xn fun r => fzW r fun d => wg d env D.nx
theorem esw_asgG {te : TE} {we : WE} {g : TG} {is : List Nat} {wg : D → Env → (Env → Prop) → Prop} (h : EvW R K E te we) (hg : TgW R K g is wg) : EsW R K E (tAsg te g) (wAsgG wg we) := by
  intro F0 H0 env σ F H D D' t ws e q
  refine h F0 H0 env σ F H _ _ _ t ws q fun v r F' H' s o rr q' => ?_
  obtain ⟨d, F2, s2, o2, rv, q2⟩ := rr.fz s o q'
  exact hg F0 H0 env σ F2 H' v d _ _ (t.step s2 o2) rv q2 fun env' σ' t' _ q3 => e.nx env' σ' F2 H' t' q3
/-- x op= e at a name (ints) -/
def gSlI : Slot → (Int → Prop) → Prop
  | .sh (.int a), Q => Q a
  | _, _ => False
def wAug (i : Nat) (f : Int → Int → Int) (we : WE) : WS := fun env D => gSlI (get env i) fun a => we env D.xn fun r => gInt1 r fun b => D.nx (put env i (.sh (.int (f a b))))
theorem esw_aug {i : Nat} {f : Int → Int → Int} {te : TE} {we : WE} (h : EvW R K E te we) : EsW R K E (tAug i te (ipI f)) (wAug i f we) := by
  intro F0 H0 env σ F H D D' t ws e q
  have z := t.sl i
  unfold wAug gSlI at q
  split at q
  · rename_i hs
    rw [hs] at z
    obtain ⟨v, z1, z2⟩ := z
    cases z2
    refine ⟨_, z1, ?_⟩
    refine h F0 H0 env σ F H _ _ _ t ws q fun v r F' H' s o rr q' => ?_
    obtain ⟨b, rfl, q'⟩ := gInt1_ex q'
    cases rr
    exact ⟨_, _, rfl, rfl, e.nx _ _ F' H' ((t.step s o).setS (.int _)) q'⟩
  · exact q.elim
/-! ### own lists and dicts -/
/-- x.append(e) -/
def gOw : Slot → (List D → Prop) → Prop
  | .ow ds, Q => Q ds
  | _, _ => False
theorem gOw_ex {s : Slot} {Q : List D → Prop} (h : gOw s Q) : ∃ ds, s = .ow ds ∧ Q ds := by
  cases s <;> first | exact h.elim | exact ⟨_, rfl, h⟩
def wApp (i : Nat) (we : WE) : WS := fun env D => gOw (get env i) fun ds => we env D.xn fun r => fzW r fun d => ds.length < sizeLine ∧ D.nx (put env i (.ow (ds ++ [d])))
theorem esw_app {i : Nat} {te : TE} {we : WE} (h : EvW R K E te we) : EsW R K E (tDrop (tBM K "list" rAppend (tVar i) (tCons te tNil))) (wApp i we) := by
  intro F0 H0 env σ F H D D' t ws e q
  obtain ⟨ds, hs, q⟩ := gOw_ex q
  have z := t.sl i
  rw [hs] at z
  obtain ⟨p, xs, z1, z2, z3, z4, z5, z6⟩ := z
  refine ⟨_, z1, .inl ⟨rfl, xs, SqL.of z5⟩, ?_⟩
  refine h F0 H0 env σ F H _ _ _ t ws q fun v r F' H' s o rr q' => ?_
  obtain ⟨d, F2, s2, o2, rv, q2⟩ := rr.fz s o q'
  have t2 := t.step s2 o2
  have h5 : H' p = some (.lst xs) := s2.keep _ _ z5 z4
  have r2 := z6.mono s2.ex
  refine ⟨p, xs, v, rfl, rfl, h5, by rw [z6.length]; exact q2.1, ?_⟩
  refine e.nx _ _ F2 _ (t2.mutG (by rw [hs]) z1 (s := .ow (ds ++ [d])) rfl ?_) q2.2
  obtain ⟨p', e1, e2, e3, e4, e5⟩ := (t2.sl i).addr (by rw [hs])
  rw [z1] at e1
  cases e1
  exact ⟨p, _, rfl, z2, e3, z4, upd_same, r2.append (.cons rv .nil)⟩
/-- x.extend(e) -/
def gLst : D → (List D → Prop) → Prop
  | .lst ds, Q => Q ds
  | _, _ => False
def wExt (i : Nat) (we : WE) : WS := fun env D => gOw (get env i) fun ds => we env D.xn fun r => gLst r.val fun es => ds.length + es.length ≤ sizeLine ∧ D.nx (put env i (.ow (ds ++ es)))
theorem esw_ext {i : Nat} {te : TE} {we : WE} (h : EvW R K E te we) : EsW R K E (tDrop (tBM K "list" rExtend (tVar i) (tCons te tNil))) (wExt i we) := by
  intro F0 H0 env σ F H D D' t ws e q
  obtain ⟨ds, hs, q⟩ := gOw_ex q
  have z := t.sl i
  rw [hs] at z
  obtain ⟨p, xs, z1, z2, z3, z4, z5, z6⟩ := z
  refine ⟨_, z1, .inl ⟨rfl, xs, SqL.of z5⟩, ?_⟩
  refine h F0 H0 env σ F H _ _ _ t ws q fun v r F2 H' s2 o2 rr q' => ?_
  have tp := rr.top
  cases hv : r.val <;> rw [hv] at q' tp <;> first | exact q'.elim | skip
  rename_i es
  obtain ⟨b, zs, rfl, hb, _, rz⟩ := top_lst o2 tp
  have t2 := t.step s2 o2
  have h5 : H' p = some (.lst xs) := s2.keep _ _ z5 z4
  have r2 := z6.mono s2.ex
  refine ⟨p, b, xs, zs, rfl, rfl, h5, hb, by rw [z6.length, rz.length]; exact q'.1, ?_⟩
  refine e.nx _ _ F2 _ (t2.mutG (by rw [hs]) z1 (s := .ow (ds ++ es)) rfl ?_) q'.2
  obtain ⟨p', e1, e2, e3, e4, e5⟩ := (t2.sl i).addr (by rw [hs])
  rw [z1] at e1
  cases e1
  exact ⟨p, _, rfl, z2, e3, z4, upd_same, r2.append rz⟩
/-- y = x.pop() -/
def wPop (j i : Nat) : WS := fun env D => gOw (get env i) fun ds => gOpt ds[ds.length - 1]? fun d => D.nx (put (put env i (.ow ds.dropLast)) j (.sh d))
theorem esw_pop {i j : Nat} : EsW R K E (tAsg (tBM0 K "list" rPop (tVar i)) (gName j)) (wPop j i) := by
  intro F0 H0 env σ F H D D' t ws e q
  have z := t.sl i
  obtain ⟨ds, hs, q⟩ := gOw_ex q
  rw [hs] at z
  obtain ⟨p, xs, z1, z2, z3, z4, z5, z6⟩ := z
  obtain ⟨d, hd, q⟩ := gOpt_ex q
  obtain ⟨v, hv, rv⟩ := z6.get hd
  refine ⟨_, z1, .inl ⟨rfl, xs, SqL.of z5⟩, p, xs, v, rfl, rfl, z5, by rw [z6.length]; exact hv, ?_⟩
  have t2 := t.mutG (by rw [hs]) z1 (s := .ow ds.dropLast) (o := .lst xs.dropLast) rfl ⟨p, _, rfl, z2, z3, z4, upd_same, z6.dropLast⟩
  exact e.nx _ _ F _ (t2.setS rv) q
/-- x[k] = e: an own list, an own dict -/
def putD (kvs : List (Key × D)) (k : Key) (d : D) : List (Key × D) :=
  if (kvs.any fun kv => decide (kv.1 = k)) = true then kvs.map (fun kv => if kv.1 = k then (kv.1, d) else kv) else kvs ++ [(k, d)]
theorem any_keys {α β : Type} {k : Key} : ∀ {fs : List (Key × α)} {gs : List (Key × β)}, fs.map (·.1) = gs.map (·.1) → (fs.any fun kv => decide (kv.1 = k)) = gs.any fun kv => decide (kv.1 = k)
  | [], [], _ => rfl
  | [], _ :: _, h => by cases h
  | _ :: _, [], h => by cases h
  | (k1, _) :: fs, (k2, _) :: gs, h => by
    simp only [List.map_cons, List.cons.injEq] at h
    simp only [List.any_cons]
    rw [any_keys h.2, h.1]
theorem put_rel {F : Hp} {k : Key} {v : V} {d : D} (rv : Rv K F v d) : ∀ {fs : List (Key × V)} {gs : List (Key × D)}, fs.map (·.1) = gs.map (·.1) → RvA K F (fs.map (·.2)) (gs.map (·.2)) →
    (putK fs k v).map (·.1) = (putD gs k d).map (·.1) ∧ RvA K F ((putK fs k v).map (·.2)) ((putD gs k d).map (·.2)) := by
  have mp : ∀ {fs : List (Key × V)} {gs : List (Key × D)}, fs.map (·.1) = gs.map (·.1) → RvA K F (fs.map (·.2)) (gs.map (·.2)) →
      (fs.map (fun kv => if kv.1 = k then (kv.1, v) else kv)).map (·.1) = (gs.map (fun kv => if kv.1 = k then (kv.1, d) else kv)).map (·.1) ∧
      RvA K F ((fs.map (fun kv => if kv.1 = k then (kv.1, v) else kv)).map (·.2)) ((gs.map (fun kv => if kv.1 = k then (kv.1, d) else kv)).map (·.2)) := by
    intro fs
    induction fs with
    | nil =>
      intro gs h r
      cases gs with
      | nil => exact ⟨rfl, .nil⟩
      | cons _ _ => cases h
    | cons p fs ih =>
      obtain ⟨k1, v1⟩ := p
      intro gs h r
      cases gs with
      | nil => cases h
      | cons q gs =>
        obtain ⟨k2, d2⟩ := q
        simp only [List.map_cons, List.cons.injEq] at h
        simp only [List.map_cons] at r
        cases r with
        | cons r0 r =>
          obtain ⟨i1, i2⟩ := ih h.2 r
          have hk := h.1
          subst hk
          simp only [List.map_cons]
          by_cases e : k1 = k
          · simp only [if_pos e]
            exact ⟨by rw [i1], .cons rv i2⟩
          · simp only [if_neg e]
            exact ⟨by rw [i1], .cons r0 i2⟩
  intro fs gs h r
  unfold putK putD
  rw [any_keys h]
  by_cases c : (gs.any fun kv => decide (kv.1 = k)) = true
  · rw [if_pos c, if_pos c]
    exact mp h r
  · rw [if_neg c, if_neg c]
    refine ⟨by rw [List.map_append, List.map_append, h]; rfl, ?_⟩
    rw [List.map_append, List.map_append]
    exact r.append (.cons rv .nil)
def rSetA : TSet := fun o i v H Q => rSetL o i v H Q ∨ ∃ a H', o = .ref a ∧ DPut H a i v H' ∧ Q H'
theorem set_all {X : Cx} (hu : X.A.units + 1 < cLine) : PSet X rSetA := by
  intro pins s σ H o i v ov iv u Q I ro ri rv h
  rcases h with h | ⟨a, H', rfl, g, q⟩
  · exact set_list pins s σ H o i v ov iv u Q I ro ri rv h
  · cases ro
    exact d_setItem hu I g ri rv fun s' I' => ⟨H', I', q⟩
def ixJ (n : Nat) (i : Int) : Option Nat := if 0 ≤ i then (if i < n then some i.toNat else none) else if -(n : Int) ≤ i then some (i + n).toNat else none
/-- what an own container becomes -/
def gSetA : Slot → D → D → (Slot → Prop) → Prop
  | .ow ds, .int i, d, Q => gOpt (ixJ ds.length i) fun j => Q (.ow (ds.set j d))
  | .od kvs, k, d, Q => gOpt k.key fun k' => kvs.length < sizeLine ∧ Q (.od (putD kvs k' d))
  | _, _, _, _ => False
def gOwn : Slot → Prop → Prop
  | .ow _, Q => Q
  | .od _, Q => Q
  | _, _ => False
theorem gOwn_ex {s : Slot} {Q : Prop} (h : gOwn s Q) : s.own = true ∧ Q := by
  cases s <;> first | exact h.elim | exact ⟨rfl, h⟩
def wSet (i : Nat) (wi we : WE) : WS := fun env D => gOwn (get env i) <| we env D.xn fun r => fzW r fun d => wi env D.xn fun k => gSetA (get env i) k.val d fun s => D.nx (put env i s)
theorem set_core {F0 H0 F H : Hp} {env : Env} {σ : L2.St} {i : Nat} {p : Addr} {x v : V} {k d : D} {Q' : Slot → Prop} {Q : Hp → Prop} (t : Sta R K F0 H0 env σ F H) (hp : σ[i]? = some (some (.ref p))) (hk : RvT R K F H x k) (hd : Rv K F v d) (q : gSetA (get env i) k d Q')
    (fin : ∀ s H', Sta R K F0 H0 (put env i s) σ F H' → Q' s → Q H') : rSetA (.ref p) x v H Q := by
  have z := t.sl i
  unfold gSetA at q
  split at q
  · rename_i d Q2 a0 a1 a2 a3 ds n hs
    rw [hs] at z
    obtain ⟨p', xs, z1, z2, z3, z4, z5, z6⟩ := z
    rw [hp] at z1
    cases z1
    obtain ⟨j, hj, q⟩ := gOpt_ex q
    rw [top_int hk]
    refine .inl ⟨p, xs, n, j, rfl, rfl, z5, by rw [z6.length]; exact hj, ?_⟩
    refine fin (.ow (ds.set j d)) _ (t.mutG (by rw [hs]) hp rfl ?_) q
    exact ⟨p, _, rfl, z2, z3, z4, upd_same, z6.set hd j⟩
  · rename_i d Q2 a0 a1 a2 a3 kvs hs
    rw [hs] at z
    obtain ⟨p', fs, z1, z2, z3, z4, z5, z6, z7⟩ := z
    rw [hp] at z1
    cases z1
    obtain ⟨k', hk', hl, q⟩ := gOpt_ex q
    have ek := key_of hk hk'
    subst ek
    have el : fs.length = kvs.length := by have := congrArg List.length z6; simpa using this
    refine .inr ⟨p, _, rfl, DPut.k z5 (by rw [el]; exact hl), ?_⟩
    obtain ⟨e1, e2⟩ := put_rel (k := k') hd z6 z7
    refine fin (.od (putD kvs k' d)) _ (t.mutG (by rw [hs]) hp rfl ?_) q
    exact ⟨p, _, rfl, z2, z3, z4, upd_same, e1, e2⟩
  · exact q.elim
theorem own_of_set {sl : Slot} {k d : D} {Q : Slot → Prop} (q : gSetA sl k d Q) : sl.own = true := by
  unfold gSetA at q
  split at q
  · rfl
  · rfl
  · exact q.elim
theorem esw_set {i : Nat} {te ti : TE} {we wi : WE} (he : EvW R K E te we) (hi : EvW R K E ti wi) : EsW R K E (tAsg te (gSub (tVar i) ti rSetA)) (wSet i wi we) := by
  intro F0 H0 env σ F H D D' t ws e q
  obtain ⟨hw, q⟩ := gOwn_ex q
  obtain ⟨p, z1, _⟩ := (t.sl i).addr hw
  refine he F0 H0 env σ F H _ _ _ t ws q fun v r F' H' s o rr q' => ?_
  obtain ⟨d, F2, s2, o2, rv, q2⟩ := rr.fz s o q'
  have t2 := t.step s2 o2
  refine ⟨_, z1, ?_⟩
  refine hi F0 H0 env σ F2 H' _ _ _ t2 ws q2 fun x k F3 H3 s3 o3 rr3 q3 => ?_
  exact set_core (t2.step s3 o3) z1 rr3.top (rv.mono s3.ex) q3 fun sl H4 t4 q4 => e.nx _ _ F3 H4 t4 q4
/-- x[k] += e -/
def rGetA (K : PySem.W.Frag) : V → V → Hp → VK → Prop := fun x y H Q => (∃ p xs, ∃ j : Nat, ∃ v, x = .ref p ∧ y = .int j ∧ SqL K H p xs ∧ xs[j]? = some v ∧ Q v H) ∨ ∃ a v, x = .ref a ∧ DGet H a y (some v) ∧ Q v H
theorem get_all {X : Cx} (hu : X.A.units + 1 < cLine) : PGet X (rGetA X.K) := by
  intro pins s σ H o i ov iv Q I ro ri h
  rcases h with ⟨p, xs, j, v, rfl, rfl, hx, hj, q⟩ | ⟨a, v, rfl, g, q⟩
  · cases ro
    obtain ⟨t, rfl⟩ := ri
    obtain ⟨its, r, pl, hz⟩ := I.list hx
    obtain ⟨w, ew, rw'⟩ := r.get hj
    have hj2 := (List.getElem?_eq_some_iff.mp hj).1
    have hn := line63
    exact wpAny_getItem_list pl.isList (Int.natCast_nonneg j) (by omega) (by simpa using ew) ⟨v, H, I, rw', q⟩
  · cases ro
    exact d_getItem hu I g ri fun w' s3 I3 rw' => ⟨v, H, I3, rw', q⟩
/-- an item of an own container -/
def gGetA : Slot → D → (D → Prop) → Prop
  | .ow ds, .int i, Q => 0 ≤ i ∧ gOpt ds[i.toNat]? Q
  | .od kvs, k, Q => gOpt k.key fun k' => gOpt (dkGet kvs k') Q
  | _, _, _ => False
def gIntD : D → (Int → Prop) → Prop
  | .int i, Q => Q i
  | _, _ => False
theorem gIntD_ex {d : D} {Q : Int → Prop} (h : gIntD d Q) : ∃ i, d = .int i ∧ Q i := by
  cases d <;> first | exact h.elim | exact ⟨_, rfl, h⟩
def wAugS (i : Nat) (f : Int → Int → Int) (wi we : WE) : WS := fun env D => gOwn (get env i) <| wi env D.xn fun k => gGetA (get env i) k.val fun x => gIntD x fun a => we env D.xn fun r => gInt1 r fun b =>
  gSetA (get env i) k.val (.int (f a b)) fun s => D.nx (put env i s)
theorem esw_augS {i : Nat} {f : Int → Int → Int} {te ti : TE} {we wi : WE} (he : EvW R K E te we) (hi : EvW R K E ti wi) :
    EsW R K E (tAugS (tVar i) ti te (rGetA K) (ipI f) rSetA) (wAugS i f wi we) := by
  intro F0 H0 env σ F H D D' t ws e q
  obtain ⟨hw, q⟩ := gOwn_ex q
  obtain ⟨p, z1, _⟩ := (t.sl i).addr hw
  refine ⟨_, z1, ?_⟩
  refine hi F0 H0 env σ F H _ _ _ t ws q fun x k F1 H1 s1 o1 rr1 q1 => ?_
  have t1 := t.step s1 o1
  have z := t1.sl i
  have rest : ∀ (a : Int), (we env D'.xn fun r => gInt1 r fun b => gSetA (get env i) k.val (.int (f a b)) fun s => D'.nx (put env i s)) → te σ H1 fun y H4 => (ipI f) (.int a) y H4 fun z H5 => rSetA (.ref p) x z H5 fun H6 => D.nx σ H6 := fun a qa => by
    refine he F0 H0 env σ F1 H1 _ _ _ t1 ws qa fun v r F2 H2 s2 o2 rr2 q2 => ?_
    obtain ⟨b, rfl, q2⟩ := gInt1_ex q2
    cases rr2
    refine ⟨_, _, rfl, rfl, ?_⟩
    exact set_core (t1.step s2 o2) z1 (rr1.top.step s2) (.int _) q2 fun sl H4 t4 q4 => e.nx _ _ F2 H4 t4 q4
  unfold gGetA at q1
  split at q1
  · rename_i ds n hs hkv
    rw [hs] at z
    obtain ⟨p', xs, y1, z2, z3, z4, z5, z6⟩ := z
    rw [z1] at y1
    cases y1
    obtain ⟨h0, q1⟩ := q1
    obtain ⟨d, hd, q1⟩ := gOpt_ex q1
    obtain ⟨v, hv, rv⟩ := z6.get hd
    have tp := rr1.top
    rw [hkv] at tp
    have ex := top_int tp
    obtain ⟨a, rfl, q1⟩ := gIntD_ex q1
    cases rv
    refine .inl ⟨p, xs, n.toNat, _, rfl, by rw [ex, Int.toNat_of_nonneg h0], SqL.of z5, hv, ?_⟩
    exact rest _ q1
  · rename_i kvs hs
    rw [hs] at z
    obtain ⟨p', fs, y1, z2, z3, z4, z5, z6, z7⟩ := z
    rw [z1] at y1
    cases y1
    obtain ⟨k', hk', q1⟩ := gOpt_ex q1
    obtain ⟨d, hd, q1⟩ := gOpt_ex q1
    have ek := key_of rr1.top hk'
    obtain ⟨v, hv, rv⟩ := (dk_rel z6 z7).2 d hd
    obtain ⟨a, rfl, q1⟩ := gIntD_ex q1
    cases rv
    refine .inr ⟨p, .int a, rfl, ?_, ?_⟩
    · rw [← hv, ek]; exact DGet.k z5
    · exact rest _ q1
  · exact q1.elim

/-! ### what is walked -/
abbrev WI := Env → (Exn → Prop) → (List D → Prop) → Prop
structure DW (R : Res) (K : PySem.W.Frag) (F1 : Hp) (J : It) (ds : List D) : Prop where
  go : ∀ i F H, Same F1 F → Ok R F H → i < ds.length → J.go i H
  stop : ∀ F H, Same F1 F → Ok R F H → J.stop ds.length H
  yld : ∀ i F H x H' d, Same F1 F → Ok R F H → ds[i]? = some d → J.yld i H x H' → ∃ F', Stp R F H F' H' ∧ Ok R F' H' ∧ Rv K F' x d
def IvW (R : Res) (K : PySem.W.Frag) (E : XK) (wi : TI) (w : WI) : Prop :=
  ∀ F0 H0 env σ F H Xn (Rq : It → Hp → Prop) (Q' : List D → Prop), Sta R K F0 H0 env σ F H → Wish R K F0 H0 E Xn → w env Xn Q' →
    (∀ J ds F' H', Stp R F H F' H' → Ok R F' H' → DW R K F' J ds → Q' ds → Rq J H') → wi σ H Rq
theorem dw_lst {F1 : Hp} {a : Addr} {xs : List V} {ds : List D} (h : F1 a = some (.lst xs)) (r : RvA K F1 xs ds) : DW R K F1 (Itl K a) ds where
  go := fun i F H e o hi => ⟨xs, xs[i]'(by rw [r.length]; exact hi), SqL.of (o.ex _ _ (e _ _ h)), by simp⟩
  stop := fun F H e o => ⟨xs, SqL.of (o.ex _ _ (e _ _ h)), by rw [r.length]; exact Nat.le_refl _⟩
  yld := fun i F H x H' d e o hd y => by
    obtain ⟨rfl, y⟩ := y
    obtain ⟨v, hv, rv⟩ := r.get hd
    have := y xs (SqL.of (o.ex _ _ (e _ _ h)))
    rw [hv] at this
    cases this
    exact ⟨F, .refl, o, rv.mono e⟩
theorem rva_map {F : Hp} : ∀ ns : List Int, RvA K F (ns.map V.int) (ns.map D.int)
  | [] => .nil
  | _ :: r => .cons (.int _) (rva_map r)
theorem dw_fls {F1 : Hp} {a : Addr} {ns : List Int} (h : SqL K F1 a (ns.map V.int)) : DW R K F1 (Itl K a) (ns.map .int) where
  go := fun i F H e o hi => ⟨_, (ns.map V.int)[i]'(by simpa using hi), (e.trans o.ex).seq h, by simp⟩
  stop := fun F H e o => ⟨_, (e.trans o.ex).seq h, by simp⟩
  yld := fun i F H x H' d e o hd y => by
    obtain ⟨rfl, y⟩ := y
    obtain ⟨v, hv, rv⟩ := (rva_map (K := K) (F := F1) ns).get hd
    have := y _ ((e.trans o.ex).seq h)
    rw [hv] at this
    cases this
    exact ⟨F, .refl, o, rv.mono e⟩
theorem dw_tup {F1 : Hp} {a : Addr} {xs : List V} {ds : List D} (h : SqT K F1 a xs) (r : RvA K F1 xs ds) : DW R K F1 (Itt K a) ds where
  go := fun i F H e o hi => ⟨xs, xs[i]'(by rw [r.length]; exact hi), sqT_mono (e.trans o.ex) h, by simp⟩
  stop := fun F H e o => ⟨xs, sqT_mono (e.trans o.ex) h, by rw [r.length]; exact Nat.le_refl _⟩
  yld := fun i F H x H' d e o hd y => by
    obtain ⟨rfl, y⟩ := y
    obtain ⟨v, hv, rv⟩ := r.get hd
    have := y xs (sqT_mono (e.trans o.ex) h)
    rw [hv] at this
    cases this
    exact ⟨F, .refl, o, rv.mono e⟩
def rngD (lo : Int) (n : Nat) : List D := (List.range n).map fun i => .int (lo + (i : Nat))
theorem rngD_get {lo : Int} {n i : Nat} {d : D} (h : (rngD lo n)[i]? = some d) : i < n ∧ d = .int (lo + (i : Nat)) := by
  unfold rngD at h
  rw [List.getElem?_map] at h
  by_cases hi : i < n
  · rw [List.getElem?_range hi] at h
    exact ⟨hi, (Option.some.inj h).symm⟩
  · rw [List.getElem?_eq_none (by simpa using hi)] at h
    cases h
theorem dw_rng {F1 : Hp} {lo : Int} {n : Nat} : DW R K F1 (Itr lo n) (rngD lo n) where
  go := fun i F H e o hi => by
    have h : i < n := by simpa [rngD] using hi
    exact h
  stop := fun F H e o => by
    show n ≤ (rngD lo n).length
    simp [rngD]
  yld := fun i F H x H' d e o hd y => by
    obtain ⟨rfl, rfl⟩ := y
    obtain ⟨_, rfl⟩ := rngD_get hd
    exact ⟨F, .refl, o, .int _⟩
/-- over a list or a tuple, frozen -/
def gISeq : Rs → (List D → Prop) → Prop
  | .sh (.lst ds), Q => Q ds
  | .sh (.tup ds), Q => Q ds
  | .nw ds, Q => Q ds
  | .sh (.fls ns), Q => Q (ns.map .int)
  | _, _ => False
def wISeq (we : WE) : WI := fun env Xn Q => we env Xn fun r => gISeq r Q
def iSeq (K : PySem.W.Frag) (tl : TE) : TI := fun σ H Rq => tl σ H fun x H1 => ∃ a, x = .ref a ∧ (((∃ xs, SqL K H1 a xs) ∧ Rq (Itl K a) H1) ∨ ((∃ xs, SqT K H1 a xs) ∧ Rq (Itt K a) H1))
theorem pi_seq {X : Cx} {tg l : Expr} {tl : TE} (hl : PE X l tl) : PI X tg l (iSeq X.K tl) := by
  refine ⟨fun pins s σ H Rq I h => thn (hl.run pins s σ H _ I h) fun v s1 q => ?_⟩
  obtain ⟨x, H1, I1, r1, a, ex, q⟩ := q
  subst ex
  cases r1
  have isNew : ∀ b ∈ [s1.heap.objs.size], FpOk X pins H1 b := fun b hb => by
    rw [List.mem_singleton.mp hb]
    exact I1.fpOk (Nat.le_refl _) (I1.hok.fresh (Nat.le_refl _))
  have kept : ∀ (ob : Obj), Inv X pins σ H1 { s1 with heap := s1.heap.push ob } := fun ob => I1.kept (t' := s1.toks) fun b o e => Heap.get?_push_of_some _ e
  rcases q with ⟨⟨xs, hq⟩, q⟩ | ⟨⟨xs, hq⟩, q⟩
  · obtain ⟨its, rv, p, hz⟩ := I1.list hq
    exact wpAny_pyIter_list p.isList ⟨_, [s1.heap.objs.size], _, _, H1, rfl, kept _, turn_list a _, ⟨_, Heap.get?_push_size _ rfl, rfl, rfl⟩, isNew, q⟩
  · obtain ⟨its, rv, p, hz⟩ := I1.tuple hq
    exact wpAny_pyIter_tuple (show s1.heap.IsTuple a its.toArray from p) ⟨_, [s1.heap.objs.size], _, _, H1, rfl, kept _, turn_tuple a _, ⟨_, Heap.get?_push_size _ rfl, rfl, rfl⟩, isNew, q⟩
theorem ivw_seq {tl : TE} {we : WE} (h : EvW R K E tl we) : IvW R K E (iSeq K tl) (wISeq we) := by
  intro F0 H0 env σ F H Xn Rq Q' t ws q k
  refine h F0 H0 env σ F H _ _ _ t ws q fun v r F1 H1 s o rr q1 => ?_
  unfold gISeq at q1
  split at q1
  · rename_i ds
    cases rr with
    | lst hF r => exact ⟨_, rfl, .inl ⟨⟨_, SqL.of (o.ex _ _ hF)⟩, k _ ds F1 H1 s o (dw_lst hF r) q1⟩⟩
  · rename_i ds
    cases rr with
    | tup hF r => exact ⟨_, rfl, .inr ⟨⟨_, sqT_mono o.ex hF⟩, k _ ds F1 H1 s o (dw_tup hF r) q1⟩⟩
  · rename_i ds
    obtain ⟨p, xs, rfl, h2, h3, h4, h5, h6⟩ := rr
    exact ⟨p, rfl, .inl ⟨⟨xs, SqL.of h3⟩, k _ ds (upd F1 p (.lst xs)) H1 (s.frz h2 h4) (o.freeze h3 h4 h5) (dw_lst upd_same (h6.mono (Same.updF h4))) q1⟩⟩
  · rename_i ns
    cases rr with
    | fls hF => exact ⟨_, rfl, .inl ⟨⟨_, o.ex.seq hF⟩, k _ _ F1 H1 s o (dw_fls hF) q1⟩⟩
  · exact q1.elim
/-- range(n), range(lo, hi) -/
def wIRng1 (we : WE) : WI := fun env Xn Q => we env Xn fun r => gInt1 r fun j => -(2 ^ 62) ≤ j ∧ j < 2 ^ 62 ∧ Q (rngD 0 j.toNat)
theorem ivw_rng1 {te : TE} {we : WE} (h : EvW R K E te we) : IvW R K E (iRng1 (tCons te tNil)) (wIRng1 we) := by
  intro F0 H0 env σ F H Xn Rq Q' t ws q k
  refine h F0 H0 env σ F H _ _ _ t ws q fun v r F1 H1 s o rr q1 => ?_
  obtain ⟨j, rfl, q1⟩ := gInt1_ex q1
  cases rr
  exact ⟨_, rfl, q1.1, q1.2.1, k _ _ F1 H1 s o dw_rng q1.2.2⟩
def wIRng2 (wa wb : WE) : WI := fun env Xn Q => wa env Xn fun a => wb env Xn fun b => gInt1 a fun i => gInt1 b fun j => (-(2 ^ 62) ≤ i ∧ i < 2 ^ 62 ∧ -(2 ^ 62) ≤ j ∧ j < 2 ^ 62) ∧ Q (rngD i (j - i).toNat)
theorem ivw_rng2 {ta tb : TE} {wa wb : WE} (ha : EvW R K E ta wa) (hb : EvW R K E tb wb) : IvW R K E (iRng2 (tCons ta (tCons tb tNil))) (wIRng2 wa wb) := by
  intro F0 H0 env σ F H Xn Rq Q' t ws q k
  refine ha F0 H0 env σ F H _ _ _ t ws q fun v r F1 H1 s o rr q1 => ?_
  refine hb F0 H0 env σ F1 H1 _ _ _ (t.step s o) ws q1 fun v2 r2 F2 H2 s2 o2 rr2 q2 => ?_
  obtain ⟨i, e1, q2⟩ := gInt1_ex q2
  obtain ⟨j, e2, q2⟩ := gInt1_ex q2
  subst e1
  subst e2
  cases rr
  cases rr2
  exact ⟨_, _, rfl, q2.1, k _ _ F2 H2 (s.trans s2) o2 dw_rng q2.2⟩
/-! ### for -/
def forW (wg : D → Env → (Env → Prop) → Prop) (wb : WS) : List D → Env → WEnds → Prop
  | [], env, D => D.nx env
  | d :: ds, env, D => wg d env fun env' => wb env' { nx := fun e => forW wg wb ds e D, rt := D.rt, bk := D.nx, ct := fun e => forW wg wb ds e D, xn := D.xn }
def wFor (wi : WI) (wg : D → Env → (Env → Prop) → Prop) (wb : WS) : WS := fun env D => wi env D.xn fun ds => forW wg wb ds env D
theorem Stp.rebase {F0 H0 F1 F H H1 : Hp} (a : Stp R F0 H0 F1 H1) (b : Stp R F1 H0 F H) : Stp R F0 H0 F H :=
  ⟨a.ex.trans b.ex, b.keep, fun p h n => b.own p h (a.own p h n), b.dom⟩
theorem Sta.base {F0 H0 F H : Hp} {env : Env} {σ : L2.St} (t : Sta R K F0 H0 env σ F H) : Sta R K F H0 env σ F H :=
  ⟨t.ok, ⟨.refl _, t.stp.keep, fun _ _ n => n, t.stp.dom⟩, t.len, t.sl, t.inj⟩
theorem Sta.unbase {F0 H0 F1 H1 F H : Hp} {env : Env} {σ : L2.St} (a : Stp R F0 H0 F1 H1) (t : Sta R K F1 H0 env σ F H) : Sta R K F0 H0 env σ F H :=
  ⟨t.ok, a.rebase t.stp, t.len, t.sl, t.inj⟩
theorem Wish.rebase {F0 H0 F1 H1 : Hp} {Xn : Exn → Prop} (a : Stp R F0 H0 F1 H1) (w : Wish R K F0 H0 E Xn) : Wish R K F1 H0 E Xn :=
  fun e cls d F' H' s' o h q => w e cls d F' H' (a.rebase s') o h q
theorem esw_for {wi : TI} {g : TG} {tb : TS} {w : WI} {is : List Nat} {wg : D → Env → (Env → Prop) → Prop} {wb : WS} (hi : IvW R K E wi w) (hg : TgW R K g is wg) (hb : EsW R K E tb wb) : EsW R K E (tFor wi g tb) (wFor w wg wb) := by
  intro F0 H0 env σ F H D D' t ws e q
  refine hi F0 H0 env σ F H _ _ _ t ws q fun J ds F1 H1 s o dw q1 => ?_
  have t1 := t.step s o
  have a := t1.stp
  refine for_it (n := ds.length) (G := fun H => ∃ F, Same F1 F ∧ Ok R F H) (Y := fun i H x H' => ∀ F d, Same F1 F → Ok R F H → ds[i]? = some d → ∃ F', Stp R F H F' H' ∧ Ok R F' H' ∧ Rv K F' x d)
    ⟨fun i H hi ⟨F, h1, h2⟩ => dw.go i F H h1 h2 hi, fun H ⟨F, h1, h2⟩ => dw.stop F H h1 h2, fun i H x H' hi _ y F d h1 h2 hd => dw.yld i F H x H' d h1 h2 hd y⟩
    (fun i σ2 H2 => ∃ env2 F2, Sta R K F1 H0 env2 σ2 F2 H2 ∧ forW wg wb (ds.drop i) env2 D') ⟨env, F1, t1.base, q1⟩ (fun i σ2 H2 _ ⟨env2, F2, t2, _⟩ => ⟨F2, t2.stp.ex, t2.ok⟩) ?_ ?_
  · rintro i x σ2 H2 H3 hi ⟨env2, F2, t2, q2⟩ y
    obtain ⟨F3, s3, o3, rv⟩ := y F2 ds[i] t2.stp.ex t2.ok (by simp [hi])
    rw [List.drop_eq_getElem_cons hi] at q2
    refine hg F1 H0 env2 σ2 F3 H3 x _ _ _ (t2.step s3 o3) rv q2 fun env4 σ4 t4 _ q4 => ?_
    refine hb F1 H0 env4 σ4 F3 H3 _ { nx := fun e => forW wg wb (ds.drop (i + 1)) e D', rt := D'.rt, bk := D'.nx, ct := fun e => forW wg wb (ds.drop (i + 1)) e D', xn := D'.xn } t4 (ws.rebase a) ⟨fun env5 σ5 F5 H5 t5 q5 => ⟨env5, F5, t5, q5⟩, fun env5 σ5 F5 H5 t5 q5 => e.nx env5 σ5 F5 H5 (t5.unbase a) q5,
      fun env5 σ5 F5 H5 t5 q5 => ⟨env5, F5, t5, q5⟩, fun v r F5 H5 s5 o5 rr q5 => e.rt v r F5 H5 (a.rebase s5) o5 rr q5⟩ q4
  · rintro σ2 H2 ⟨env2, F2, t2, q2⟩
    rw [List.drop_length] at q2
    exact e.nx env2 σ2 F2 H2 (t2.unbase a) q2
/-! ### while -/
def wWhile (wt : WT) (wb : WS) : WS := fun env D => ∃ W : Nat → Env → Prop, (∃ m, W m env) ∧ ∀ m env, W m env → wt env D.xn fun b =>
  if b = true then wb env { nx := fun e => ∃ m', m' < m ∧ W m' e, rt := D.rt, bk := D.nx, ct := fun e => ∃ m', m' < m ∧ W m' e, xn := D.xn } else D.nx env
theorem esw_while {tt : TT} {tb : TS} {wt : WT} {wb : WS} (ht : EtW R K E tt wt) (hb : EsW R K E tb wb) : EsW R K E (tWhile tt tb) (wWhile wt wb) := by
  intro F0 H0 env σ F H D D' t ws e ⟨W, ⟨m0, w0⟩, turn⟩
  refine ⟨fun m σ2 H2 => ∃ env2 F2, Sta R K F0 H0 env2 σ2 F2 H2 ∧ W m env2, ⟨m0, env, F, t, w0⟩, ?_⟩
  rintro m σ2 H2 ⟨env2, F2, t2, w2⟩
  refine ht F0 H0 env2 σ2 F2 H2 _ _ _ t2 ws (turn m env2 w2) fun b F3 H3 s3 o3 q3 => ?_
  have t3 := t2.step s3 o3
  cases b with
  | true =>
    rw [if_pos rfl] at q3 ⊢
    refine ⟨fun σ4 H4 => ∃ env4 F4, Sta R K F0 H0 env4 σ4 F4 H4 ∧ ∃ m', m' < m ∧ W m' env4, fun σ4 H4 ⟨env4, F4, t4, m', h1, h2⟩ => ⟨m', h1, env4, F4, t4, h2⟩, ?_⟩
    exact hb F0 H0 env2 σ2 F3 H3 _ { nx := fun e => ∃ m', m' < m ∧ W m' e, rt := D'.rt, bk := D'.nx, ct := fun e => ∃ m', m' < m ∧ W m' e, xn := D'.xn } t3 ws ⟨fun env5 σ5 F5 H5 t5 q5 => ⟨env5, F5, t5, q5⟩, e.nx, fun env5 σ5 F5 H5 t5 q5 => ⟨env5, F5, t5, q5⟩, e.rt⟩ q3
  | false =>
    rw [if_neg Bool.false_ne_true] at q3 ⊢
    exact e.nx env2 σ2 F3 H3 t3 q3
/-! ### list comprehensions -/
def wipeE (env : Env) : List Nat → Env
  | [] => env
  | v :: vs => put (wipeE env vs) v .un
theorem Sta.wipe {F0 H0 F H : Hp} {env : Env} {σ : L2.St} (t : Sta R K F0 H0 env σ F H) : ∀ vs : List Nat, Sta R K F0 H0 (wipeE env vs) (L2.wipe σ vs) F H
  | [] => t
  | v :: vs => by
    have ih := t.wipe vs
    unfold wipeE L2.wipe
    by_cases hl : v < (wipeE env vs).length
    · have hl2 : v < (L2.wipe σ vs).length := by rw [← ih.len]; exact hl
      refine ⟨ih.ok, ih.stp, by rw [put_length, List.length_set]; exact ih.len, fun j => ?_, fun j k h1 h2 e => ?_⟩
      · by_cases q : j = v
        · subst q; rw [get_put_same hl]; trivial
        · rw [get_put_ne q, List.getElem?_set_ne (Ne.symm q)]; exact ih.sl j
      · by_cases q1 : j = v
        · subst q1; rw [get_put_same hl] at h1; cases h1
        · by_cases q2 : k = v
          · subst q2; rw [get_put_same hl] at h2; cases h2
          · rw [get_put_ne q1] at h1
            rw [get_put_ne q2] at h2
            rw [List.getElem?_set_ne (Ne.symm q1), List.getElem?_set_ne (Ne.symm q2)] at e
            exact ih.inj j k h1 h2 e
    · have hl' : (wipeE env vs).length ≤ v := Nat.le_of_not_lt hl
      rw [put_out hl', List.set_eq_of_length_le (by rw [← ih.len]; exact hl')]
      exact ih
def lcW (wg : D → Env → (Env → Prop) → Prop) (wt : WT) (we : WE) (env : Env) : List D → List D → (List D → Prop) → Prop
  | [], acc, Q => Q acc
  | d :: ds, acc, Q => wg d env fun env' => wt env' NoX fun b => if b = true then we env' NoX fun r => fzW r fun y => lcW wg wt we env ds (acc ++ [y]) Q else lcW wg wt we env ds acc Q
def wLc (wi : WI) (wg : D → Env → (Env → Prop) → Prop) (wt : WT) (we : WE) (vs : List Nat) : WE := fun env Xn Q => wi env Xn fun ds => ds.length ≤ sizeLine ∧ lcW wg wt we (wipeE env vs) ds [] fun ys => Q (.nw ys)
def wYes : WT := fun _ _ Q => Q true
theorem etw_yes : EtW R K E tYes wYes := by
  intro F0 H0 env σ F H Xn Q Q' t ws q k
  exact k true F H .refl t.ok q
theorem evw_lc {wi : TI} {g : TG} {tt : TT} {te : TE} {w : WI} {is : List Nat} {wg : D → Env → (Env → Prop) → Prop} {wt : WT} {we : WE} {vs : List Nat} {E' : XK} (hi : IvW R K E wi w) (hg : TgW R K g is wg) (his : ∀ i ∈ is, i ∈ vs)
    (ht : EtW R K E' tt wt) (he : EvW R K E' te we) : EvW R K E (tLc wi g tt te vs) (wLc w wg wt we vs) := by
  intro F0 H0 env σ F H Xn Q Q' t ws q k
  refine hi F0 H0 env σ F H _ _ _ t ws q fun J ds F1 H1 s o dw q1 => ?_
  intro A hA
  obtain ⟨hz, q1⟩ := q1
  have na := o.notA hA
  have t1 := t.step s o
  refine lc_it (n := ds.length) (G := fun H => ∃ F, Same F1 F ∧ Ok R F H) (Y := fun i H x H' => ∀ F d, Same F1 F → Ok R F H → ds[i]? = some d → ∃ F', Stp R F H F' H' ∧ Ok R F' H' ∧ Rv K F' x d)
    ⟨fun i H hi ⟨F, h1, h2⟩ => dw.go i F H h1 h2 hi, fun H ⟨F, h1, h2⟩ => dw.stop F H h1 h2, fun i H x H' hi _ y F d h1 h2 hd => dw.yld i F H x H' d h1 h2 hd y⟩
    (fun i H2 => ∃ F2 acc xs, Stp R F1 H1 F2 H2 ∧ Ok R F2 H2 ∧ H2 A = some (.lst xs) ∧ F2 A = none ∧ RvA K F2 xs acc ∧ acc.length ≤ i ∧ lcW wg wt we (wipeE env vs) (ds.drop i) acc fun ys => Q' (.nw ys))
    ⟨F1, [], [], o.newT hA, o.newO hA, upd_same, o.notF hA, .nil, Nat.le_refl _, q1⟩ (fun i H2 _ ⟨F2, acc, xs, h1, h2, _⟩ => ⟨F2, h1.ex, h2⟩) ?_ ?_
  · rintro i x H2 H3 hlt ⟨F2, acc, xs, s2, o2, hL, hF, r, hl, q2⟩ y
    obtain ⟨F3, s3, o3, rv⟩ := y F2 ds[i] s2.ex o2 (by simp [hlt])
    rw [List.drop_eq_getElem_cons hlt] at q2
    have t3 : Sta R K F0 H0 (wipeE env vs) (wipe σ vs) F3 H3 := (t1.wipe vs).step (s2.trans s3) o3
    refine hg F0 H0 _ _ F3 H3 x _ _ _ t3 rv q2 fun env4 σ4 t4 hw q4 => ⟨?_, ?_⟩
    · rw [hw vs his, wipe_wipe]
    refine ht F0 H0 env4 σ4 F3 H3 NoX _ _ t4 wish_no q4 fun b F5 H5 s5 o5 q5 => ?_
    have s35 := s3.trans s5
    cases b with
    | false =>
      rw [if_neg Bool.false_ne_true] at q5 ⊢
      exact ⟨F5, acc, xs, s2.trans s35, o5, s35.keep _ _ hL na, s35.own A (by rw [hL]; simp) hF, r.mono s35.ex, Nat.le_succ_of_le hl, q5⟩
    | true =>
      rw [if_pos rfl] at q5 ⊢
      refine he F0 H0 env4 σ4 F5 H5 NoX _ _ (t4.step s5 o5) wish_no q5 fun v r6 F6 H6 s6 o6 rr q6 => ?_
      obtain ⟨d, F7, s7, o7, rv7, q7⟩ := rr.fz s6 o6 q6
      have s37 := s35.trans s7
      refine ⟨xs, s37.keep _ _ hL na, by rw [r.length]; omega, ?_⟩
      have hF7 := s37.own A (by rw [hL]; simp) hF
      exact ⟨F7, acc ++ [d], xs ++ [v], (s2.trans s37).mut hA, o7.mut hF7 na, upd_same, hF7, (r.mono s37.ex).append (.cons rv7 .nil), by simp; omega, q7⟩
  · rintro H2 ⟨F2, acc, xs, s2, o2, hL, hF, r, hl, q2⟩
    rw [List.drop_length] at q2
    exact k _ (.nw acc) F2 H2 (s.trans s2) o2 ⟨A, xs, rfl, s.fresh hA, hL, hF, na, r⟩ q2
end
end VH

set_option Elab.async false
set_option maxRecDepth 100000
set_option linter.all false
set_option maxHeartbeats 2000000
namespace VH
open PySem L2
open PyProof.Rows (envOfC)

/-! ### a def's promise, at a stack without guards (repr asks for them) -/
structure FnG (P : Program) (w : World) (K : PySem.W.Frag) (mg : Str → Option Value) (base : Heap) (k : Nat) (f : Addr) (fd : FuncData) (ps : List Str) (sp : Sp) : Prop where
  len : ∀ vs H Q E, sp vs H Q E → vs.length = ps.length
  run : ∀ (A : Around) (outer : List PySem.Env) (s : Shared) (H : Hp) (args : Args) (us : List Value) (vs : List V) (Q : VK) (E : XK), A.guards = some [] → Room k A → Env0 P w K mg base A outer s H → BindsTo s fd args (ps.zip us) → Vals vs us →
    sp vs H Q E → codeAny (model P w) A (.call (.ref f) args) (CR (L2.CX P w) outer P w H s Q E) s
theorem FnG.mono {P : Program} {w : World} {K : PySem.W.Frag} {mg : Str → Option Value} {base : Heap} {j k : Nat} {f : Addr} {fd : FuncData} {ps : List Str} {sp : Sp} (F : FnG P w K mg base j f fd ps sp) (h : j ≤ k) : FnG P w K mg base k f fd ps sp :=
  ⟨F.len, fun A outer s H args us vs Q E hg hr => F.run A outer s H args us vs Q E hg (hr.mono h)⟩
theorem FnG.imp {P : Program} {w : World} {K : PySem.W.Frag} {mg : Str → Option Value} {base : Heap} {k : Nat} {f : Addr} {fd : FuncData} {ps : List Str} {sp sp' : Sp} (F : FnG P w K mg base k f fd ps sp) (h : ∀ vs H Q E, sp' vs H Q E → sp vs H Q E) : FnG P w K mg base k f fd ps sp' :=
  ⟨fun vs H Q E q => F.len vs H Q E (h _ _ _ _ q), fun A outer s H args us vs Q E hg hr he hb hv hs => F.run A outer s H args us vs Q E hg hr he hb hv (h _ _ _ _ hs)⟩
/-- a global def: where it stands, how it binds -/
structure Glob (K : PySem.W.Frag) (mg : Str → Option Value) (x : Str) (f : Addr) (fd : FuncData) (ps : List Str) : Prop where
  mg : mg x = some (.ref f)
  kp : PySem.W.keepIn K (.ref f) = true
  bd : Binds K fd ps []

section
variable {X : Cx} {k : Nat} {f C : Addr} {fd : FuncData} {ps : List Str} {sp : Sp} {E : XK} {x m : Str} {p pos apos : Pos} {e o : Expr} {es : List Expr} {ta : TE} {t : TA} {R : Res}
theorem runG {pins : List (Addr × Obj)} {σ : L2.St} {H : Hp} {s : Shared} {Q : VK} {us : List Value} {vs : List V} (F : FnG X.prog X.w X.K X.mg X.base k f fd ps sp) (hg : X.A.guards = some []) (hr : Room k X.A) (hb : Binds X.K fd ps [])
    (hx : Passes (L2.CX X.prog X.w) X E) (I : Inv X pins σ H s) (r : Vals vs us) (h : sp vs H Q E) : wpAny (model X.prog X.w) X.A (call (.ref f) us) (EP X pins σ Q) X.xe s := by
  have hl : us.length = ps.length := by rw [← r.length]; exact F.len _ _ _ _ h
  have b := hb s us I.kIn (by simpa using hl)
  rw [List.append_nil] at b
  have c := F.run X.A X.stack s H ⟨us, []⟩ us vs Q E hg hr I.env0 b r h
  refine wpAny_call (codeAny_mono c fun res s' hq => ?_)
  match res, hq with
  | .error e, hq => exact hx pins σ H s e s' I hq
  | .ok (.ret u), hq => exact I.after hq
theorem pe_callG (F : FnG X.prog X.w X.K X.mg X.base k f fd ps sp) (G : Glob X.K X.mg x f fd ps) (hg : X.A.guards = some []) (hr : Room k X.A) (gl : Gl X x) (hx : Passes (L2.CX X.prog X.w) X E) (ha : PA X (e :: es) t)
    (hdb : (x == ("__debug__" : Str)) = false) (he : starEach (e :: es) X.env = (false, eval e X.env) :: starEach es X.env) (hpl : (backTo pos (starEach es X.env)).any (·.1) = false) : PE X (.Call (.Name x p) (e :: es) [] pos) (tCall sp [] E t) := by
  refine ⟨fun pins s σ H Q I h => wpAny_Call_Name_kw (ld_glob I gl G.mg ?_ hdb)⟩
  have args := ha.run pos pins s σ H _ I h
  refine PySem.W.callWith_K (h₀ := X.base) I.ok.mod.kin G.kp (thn args ?_) he hpl
  rintro us s1 ⟨vs, H1, I1, r, q⟩
  rw [List.append_nil] at q
  exact ⟨I1.kIn, runG F hg hr G.bd hx I1 r q⟩
theorem pe_callG0 (F : FnG X.prog X.w X.K X.mg X.base k f fd ps sp) (G : Glob X.K X.mg x f fd ps) (hg : X.A.guards = some []) (hr : Room k X.A) (gl : Gl X x) (hx : Passes (L2.CX X.prog X.w) X E)
    (hdb : (x == ("__debug__" : Str)) = false) : PE X (.Call (.Name x p) [] [] pos) (tCall sp [] E tNil) :=
  ⟨fun pins s σ H Q I h => wpAny_Call_Name_kw (ld_glob I gl G.mg (PySem.W.callWith_K0 I.kIn G.kp (runG (us := []) F hg hr G.bd hx I .nil h)) hdb)⟩
/-- o.m(..) -/
structure MethG (K : PySem.W.Frag) (C : Addr) (m : Str) (f : Addr) (fd : FuncData) (ps : List Str) : Prop where
  cl : Cls K C
  me : Meth K C m f
  bd : Binds K fd ps []
theorem pe_methG {pl : Sem Bool} (he : PE X o ta) (M : MethG X.K C m f fd ps) (F : FnG X.prog X.w X.K X.mg X.base k f fd ps sp) (hg : X.A.guards = some []) (hr : Room k X.A) (hx : Passes (L2.CX X.prog X.w) X E) (ha : PA X (e :: es) t)
    (hst : starEach (e :: es) X.env = (false, eval e X.env) :: starEach es X.env) (hpl : (backTo pos (starEach es X.env)).any (·.1) = false)
    (ht : eval (.Call (.Attribute o m apos) (e :: es) [] pos) X.env = (do let ov ← eval o X.env; standAt apos.atName; let (f, first) ← holding [ov] (getMethod ov m pl); callWith pos f first (backTo pos (starEach (e :: es) X.env)) (backToKw pos (keywordEach [] X.env)))) :
    PE X (.Call (.Attribute o m apos) (e :: es) [] pos) (tMeth C m sp [] E ta t) := by
  refine ⟨fun pins s σ H Q I h => PySem.W.methodCall_KW (pl := pl) (thn (he.run pins s σ H _ I h) ?_) ht⟩
  rintro u s1 ⟨x, H1, I1, rx, a, dx, fs, rfl, ea, l, q⟩
  cases rx
  refine getmeth_ok I1 ea M.cl M.me l ?_
  have args := ha.run pos pins s1 σ H1 _ I1 q
  refine PySem.W.callWith_K (first := [.ref a]) (h₀ := X.base) I.ok.mod.kin M.me.kp (thn args ?_) hst hpl
  rintro us s2 ⟨vs, H2, I2, r, q2⟩
  rw [List.append_nil] at q2
  exact ⟨I2.kIn, runG (us := .ref a :: us) (vs := .ref a :: vs) F hg hr M.bd hx I2 (.cons rfl r) q2⟩
theorem pe_methG0 {pl : Sem Bool} (he : PE X o ta) (M : MethG X.K C m f fd ps) (F : FnG X.prog X.w X.K X.mg X.base k f fd ps sp) (hg : X.A.guards = some []) (hr : Room k X.A) (hx : Passes (L2.CX X.prog X.w) X E)
    (ht : eval (.Call (.Attribute o m apos) [] [] pos) X.env = (do let ov ← eval o X.env; standAt apos.atName; let (f, first) ← holding [ov] (getMethod ov m pl); callWith pos f first (backTo pos (starEach [] X.env)) (backToKw pos (keywordEach [] X.env)))) :
    PE X (.Call (.Attribute o m apos) [] [] pos) (tMeth C m sp [] E ta tNil) := by
  refine ⟨fun pins s σ H Q I h => PySem.W.methodCall_KW (pl := pl) (thn (he.run pins s σ H _ I h) ?_) ht⟩
  rintro u s1 ⟨x, H1, I1, rx, a, dx, fs, rfl, ea, l, q⟩
  cases rx
  refine getmeth_ok I1 ea M.cl M.me l ?_
  exact PySem.W.callWith_K0 (first := [.ref a]) I1.kIn M.me.kp (runG (us := [.ref a]) (vs := [.ref a]) F hg hr M.bd hx I1 (.cons rfl .nil) q)
/-- C(..) -/
structure MakeG (K : PySem.W.Frag) (mg : Str → Option Value) (x : Str) (C f : Addr) (fd : FuncData) (ps : List Str) : Prop where
  mkk : Mk K C f
  mg : mg x = some (.ref C)
  bd : Binds K fd ps []
theorem under_guards {A : Around} {us : List Value} {kw : List (Str × Value)} : (A.under (.builtin "type.__call__" ⟨.ref C :: us, kw⟩)).guards = A.guards := by
  have h : (Code.builtin "type.__call__" ⟨.ref C :: us, kw⟩).guards = [] := by
    simp [Code.guards, Code.isGuard, guardIds]
  unfold Around.under
  rw [h]
  cases A.guards <;> simp [pushGuards]
theorem make_run {pins : List (Addr × Obj)} {σ : L2.St} {H : Hp} {s : Shared} {Q : VK} {us : List Value} {vs : List V} (M : MakeG X.K X.mg x C f fd ps) (F : FnG X.prog X.w X.K X.mg X.base k f fd ps sp) (hg : X.A.guards = some []) (hr : Room (k + 1) X.A)
    (hx : Passes (L2.CX X.prog X.w) X E) (I : Inv X pins σ H s) (r : Vals vs us)
    (h : ∀ x dx, H x = none → H dx = none → dx ≠ x → sp (.ref x :: vs) (upd (upd H dx (.own x)) x (.ins C dx [])) (fun v H2 => v = .non ∧ Q (.ref x) H2) E) : wpAny (model X.prog X.w) X.A (call (.ref C) us) (EP X pins σ Q) X.xe s := by
  have n1 : H s.heap.objs.size = none := I.hok.fresh (Nat.le_refl _)
  have n2 : H (s.heap.objs.size + 1) = none := I.hok.fresh (Nat.le_succ _)
  have hq := h (s.heap.objs.size + 1) s.heap.objs.size n2 n1 (Nat.ne_of_lt (Nat.lt_succ_self _))
  have I2 := Inv.made (C := C) I
  have r2 : Vals (V.ref (s.heap.objs.size + 1) :: vs) (Value.ref (s.heap.objs.size + 1) :: us) := .cons rfl r
  have hl : (Value.ref (s.heap.objs.size + 1) :: us ++ []).length = ps.length := by
    rw [List.append_nil, ← r2.length]
    exact F.len _ _ _ _ hq
  have b := M.bd _ (Value.ref (s.heap.objs.size + 1) :: us) I2.kIn hl
  rw [List.append_nil] at b
  have c := F.run _ X.stack _ _ ⟨Value.ref (s.heap.objs.size + 1) :: us, []⟩ (Value.ref (s.heap.objs.size + 1) :: us) _ _ E (under_guards.trans hg) (hr.make C us []) (I2.env0.make C us []) b r2 hq
  refine wpAny_call (make_map (f := f) I.kIn M.mkk.makes M.mkk.init (beq_iff_eq.mp M.mkk.fn) (codeAny_mono c fun res s' hq' => ?_))
  match res, hq' with
  | .error e, hq' => exact hx pins σ _ _ e s' I2 hq'
  | .ok (.ret u), hq' =>
    obtain ⟨v, H', I3, rv, ev, q3⟩ := I2.after hq'
    subst ev
    exact ⟨rv, V.ref (s.heap.objs.size + 1), H', I3, rfl, q3⟩
theorem pe_makeG (M : MakeG X.K X.mg x C f fd ps) (F : FnG X.prog X.w X.K X.mg X.base k f fd ps sp) (hg : X.A.guards = some []) (hr : Room (k + 1) X.A) (gl : Gl X x) (hx : Passes (L2.CX X.prog X.w) X E) (ha : PA X (e :: es) t)
    (hdb : (x == ("__debug__" : Str)) = false) (he : starEach (e :: es) X.env = (false, eval e X.env) :: starEach es X.env) (hpl : (backTo pos (starEach es X.env)).any (·.1) = false) : PE X (.Call (.Name x p) (e :: es) [] pos) (tMake C sp [] E t) := by
  refine ⟨fun pins s σ H Q I h => wpAny_Call_Name_kw (ld_glob I gl M.mg ?_ hdb)⟩
  have args := ha.run pos pins s σ H _ I h
  refine PySem.W.callWith_K (h₀ := X.base) I.ok.mod.kin M.mkk.kp (thn args ?_) he hpl
  rintro us s1 ⟨vs, H1, I1, r, q⟩
  simp only [List.append_nil] at q
  exact ⟨I1.kIn, make_run M F hg hr hx I1 r q⟩
end

/-! ### promises over deep values -/
abbrev WF := Res → List D → (Exn → Prop) → (Rs → Prop) → Prop
def spV (K : PySem.W.Frag) (wf : WF) : Sp := fun vs H Q E => ∃ R F ds Xn Q', Ok R F H ∧ RvA K F vs ds ∧ Wish R K F H E Xn ∧
  (∀ v r F' H', Stp R F H F' H' → Ok R F' H' → Rr R K H F' H' v r → Q' r → Q v H') ∧ wf R ds Xn Q'
abbrev WIn := List D → (Exn → Prop) → (List (Str × D) → Prop) → Prop
/-- __init__ of the class at C: what the new instance's fields are -/
def less (H : Hp) (x dx : Addr) : Hp := fun a => if a = x ∨ a = dx then none else H a
def spI (K : PySem.W.Frag) (C : Addr) (wi : WIn) : Sp := fun vs H Q E => ∃ (R : Res), ∃ F ds x dx us Xn Q', vs = .ref x :: us ∧ Ok R F H ∧ RvA K F us ds ∧ H x = some (.ins C dx []) ∧ F x = none ∧ ¬ R.A x ∧ F dx = none ∧ ¬ R.A dx ∧ Wish R K F (less H x dx) E Xn ∧
  (∀ gs fs F' H', Stp R F (less H x dx) F' H' → Ok R F' H' → (∃ dx', H' x = some (.ins C dx' fs)) → F' x = none → fs.map (·.1) = gs.map (·.1) → RvA K F' (fs.map (·.2)) (gs.map (·.2)) → Q' gs → Q .non H') ∧ wi ds Xn Q'

section
variable {R : Res} {K : PySem.W.Frag} {E : XK}
def wCall (wf : List D → (Exn → Prop) → (Rs → Prop) → Prop) (wa : WA) : WE := fun env Xn Q => wa env Xn fun ds => wf ds Xn Q
theorem evw_call {wf : WF} {ta : TA} {wa : WA} (h : EaW R K E ta wa) : EvW R K E (tCall (spV K wf) [] E ta) (wCall (wf R) wa) := by
  intro F0 H0 env σ F H Xn Q Q' t ws q k
  refine h F0 H0 env σ F H _ _ _ t ws q fun vs ds F1 H1 s1 o1 r q1 => ?_
  have t1 := t.step s1 o1
  refine ⟨R, F1, ds, Xn, Q', o1, by rw [List.append_nil]; exact r, ws.step t1.stp, fun v r2 F2 H2 s2 o2 rr q2 => ?_, q1⟩
  exact k v r2 F2 H2 (s1.trans s2) o2 (rr.back s1) q2
def gObj : Rs → (Addr → List (Str × D) → Prop) → Prop
  | .sh (.obj C gs), Q => Q C gs
  | _, _ => False
def wMeth (Cs : List Addr) (m : Str) (wf : List D → (Exn → Prop) → (Rs → Prop) → Prop) (wo : WE) (wa : WA) : WE := fun env Xn Q => wo env Xn fun r => gObj r fun C gs => C ∈ Cs ∧ (gs.find? fun kv => decide (kv.1 = m)) = none ∧ wa env Xn fun ds => wf (.obj C gs :: ds) Xn Q
theorem lookup_none {m : Str} : ∀ {fs : List (Str × V)} {gs : List (Str × D)}, fs.map (·.1) = gs.map (·.1) → (gs.find? fun kv => decide (kv.1 = m)) = none → fs.lookup m = none
  | [], _, _, _ => rfl
  | _ :: _, [], h, _ => by cases h
  | (k1, v1) :: fs, (k2, d2) :: gs, h, q => by
    simp only [List.map_cons, List.cons.injEq] at h
    rw [List.find?_cons] at q
    by_cases e : k2 = m
    · simp [e] at q
    · simp [e] at q
      rw [List.lookup_cons, show (m == k1) = false from beq_eq_false_iff_ne.mpr (by rw [h.1]; exact Ne.symm e)]
      exact lookup_none h.2 (by simpa [List.find?_eq_none] using q)
theorem evw_meth {C : Addr} {m : Str} {wf : WF} {to : TE} {ta : TA} {wo : WE} {wa : WA} (ho : EvW R K E to wo) (h : EaW R K E ta wa) : EvW R K E (tMeth C m (spV K wf) [] E to ta) (wMeth [C] m (wf R) wo wa) := by
  intro F0 H0 env σ F H Xn Q Q' t ws q k
  refine ho F0 H0 env σ F H _ _ _ t ws q fun v r F1 H1 s1 o1 rr q1 => ?_
  unfold gObj at q1
  split at q1
  · rename_i C' gs
    obtain ⟨hC, hm, q1⟩ := q1
    have hC : C' = C := by simpa using hC
    subst hC
    obtain ⟨p, dx, fs, rfl, hF, hH, ek, r⟩ := top_obj o1 rr.top
    refine ⟨p, dx, fs, rfl, hH, lookup_none ek hm, ?_⟩
    have t1 := t.step s1 o1
    refine h F0 H0 env σ F1 H1 _ _ _ t1 ws q1 fun vs ds F2 H2 s2 o2 r2 q2 => ?_
    have t2 := t1.step s2 o2
    refine ⟨R, F2, .obj C' gs :: ds, Xn, Q', o2, by rw [List.append_nil]; exact .cons (.obj (s2.ex _ _ hF) ek (r.mono s2.ex)) r2, ws.step t2.stp, fun v r3 F3 H3 s3 o3 rr3 q3 => ?_, q2⟩
    exact k v r3 F3 H3 ((s1.trans s2).trans s3) o3 (rr3.back (s1.trans s2)) q3
  · exact q1.elim
def wMake (C : Addr) (wi : WIn) (wa : WA) : WE := fun env Xn Q => wa env Xn fun ds => wi ds Xn fun gs => Q (.sh (.obj C gs))
theorem less_made {H : Hp} {x dx C : Addr} (h1 : H x = none) (h2 : H dx = none) : less (upd (upd H dx (.own x)) x (.ins C dx [])) x dx = H := by
  funext a
  unfold less
  by_cases e : a = x ∨ a = dx
  · rw [if_pos e]
    rcases e with rfl | rfl
    · exact h1.symm
    · exact h2.symm
  · rw [if_neg e, upd_ne fun z => e (.inl z), upd_ne fun z => e (.inr z)]
theorem evw_make {C : Addr} {wi : WIn} {ta : TA} {wa : WA} (h : EaW R K E ta wa) : EvW R K E (tMake C (spI K C wi) [] E ta) (wMake C wi wa) := by
  intro F0 H0 env σ F H Xn Q Q' t ws q k
  refine h F0 H0 env σ F H _ _ _ t ws q fun vs ds F1 H1 s1 o1 r q1 => ?_
  intro x dx nx ndx ne
  have t1 := t.step s1 o1
  have o2 : Ok R F1 (upd (upd H1 dx (.own x)) x (.ins C dx [])) := (o1.newO ndx).newO (by rw [upd_ne ne.symm]; exact nx)
  refine ⟨R, F1, ds, x, dx, vs, Xn, fun gs => Q' (.sh (.obj C gs)), by rw [List.append_nil], o2, r, upd_same, o1.notF nx, o1.notA nx, o1.notF ndx, o1.notA ndx, ?_, ?_, q1⟩
  · rw [less_made nx ndx]
    exact ws.step t1.stp
  · intro gs fs F' H' s o hx hFx ek rk q'
    rw [less_made nx ndx] at s
    obtain ⟨dx', hx⟩ := hx
    refine ⟨rfl, k _ (.sh (.obj C gs)) (upd F' x (.ins C dx' fs)) H' (s1.trans (s.frz nx hFx)) (o.freeze hx hFx (o1.notA nx)) ?_ q'⟩
    exact .obj upd_same ek (rk.mono (Same.updF hFx))
/-! ### self.f = e within __init__ -/
def putG (f : Str) (d : D) : List (Str × D) → List (Str × D)
  | [] => [(f, d)]
  | kv :: r => if kv.1 = f then (f, d) :: r else kv :: putG f d r
theorem putG_rel {F : Hp} {f : Str} {v : V} {d : D} (rv : Rv K F v d) : ∀ {fs : List (Str × V)} {gs : List (Str × D)}, fs.map (·.1) = gs.map (·.1) → RvA K F (fs.map (·.2)) (gs.map (·.2)) →
    (putF f v fs).map (·.1) = (putG f d gs).map (·.1) ∧ RvA K F ((putF f v fs).map (·.2)) ((putG f d gs).map (·.2))
  | [], [], _, _ => ⟨rfl, .cons rv .nil⟩
  | [], _ :: _, h, _ => by cases h
  | _ :: _, [], h, _ => by cases h
  | (k1, v1) :: fs, (k2, d2) :: gs, h, r => by
    simp only [List.map_cons, List.cons.injEq] at h
    simp only [List.map_cons] at r
    cases r with
    | cons r0 r =>
      obtain ⟨i1, i2⟩ := putG_rel rv h.2 r
      have hk := h.1
      subst hk
      unfold putF putG
      by_cases e : k1 = f
      · simp only [if_pos e, List.map_cons]
        exact ⟨by rw [h.2, e], .cons rv r⟩
      · simp only [if_neg e, List.map_cons]
        exact ⟨by rw [i1], .cons r0 i2⟩
def gOi (Cs : List Addr) : Slot → (Addr → Addr → List (Str × D) → Prop) → Prop
  | .oi C a gs, Q => C ∈ Cs ∧ Q C a gs
  | _, _ => False
theorem gOi_ex {Cs : List Addr} {s : Slot} {Q : Addr → Addr → List (Str × D) → Prop} (h : gOi Cs s Q) : ∃ C a gs, s = .oi C a gs ∧ C ∈ Cs ∧ Q C a gs := by
  cases s <;> first | exact h.elim | exact ⟨_, _, _, rfl, h⟩
def wFldS (Cs : List Addr) (i : Nat) (f : Str) (we : WE) : WS := fun env D => gOi Cs (get env i) fun C a gs => we env D.xn fun r => fzW r fun d => gs.length < 1000 ∧ D.nx (put env i (.oi C a (putG f d gs)))
theorem esw_fldS {i : Nat} {f : Str} {te : TE} {we : WE} {Cs : List Addr} (hA : ∀ C ∈ Cs, Att K C f) (h : EvW R K E te we) : EsW R K E (sFld K (tVar i) te f) (wFldS Cs i f we) := by
  intro F0 H0 env σ F H D D' t ws e q
  obtain ⟨C, a, gs, hs, hC, q⟩ := gOi_ex q
  refine h F0 H0 env σ F H _ _ _ t ws q fun v r F' H' s o rr q' => ?_
  obtain ⟨d, F2, s2, o2, rv, q2⟩ := rr.fz s o q'
  have t2 := t.step s2 o2
  have z := t2.sl i
  rw [hs] at z
  obtain ⟨p, dx, xs, ⟨z1, za⟩, z2, z3, z4, z5, z6, z7⟩ := z
  have el : xs.length = gs.length := by have := congrArg List.length z6; simpa using this
  refine ⟨_, z1, p, C, dx, xs, rfl, z5, (hA C hC).1, (hA C hC).2, by rw [el]; exact q2.1, ?_⟩
  obtain ⟨e1, e2⟩ := putG_rel (f := f) rv z6 z7
  exact e.nx _ _ F2 _ (t2.mutG (by rw [hs]) z1 (s := .oi C a (putG f d gs)) rfl ⟨p, dx, _, ⟨rfl, za⟩, z2, z3, z4, upd_same, e1, e2⟩) q2.2
end

/-- the slot holds the instance x of the class at C, whose fields Q wants -/
def isInst (C x : Addr) (Q : List (Str × D) → Prop) : Slot → Prop
  | .oi C' a gs => C' = C ∧ a = x ∧ Q gs
  | _ => False
/-! ### a def by its body -/
def startE (N : List Str) (ds : List D) : Env := ds.map .sh ++ List.replicate (N.length - ds.length) .un
theorem get_append_l : ∀ {e r : Env} {i : Nat}, i < e.length → get (e ++ r) i = get e i
  | [], _, _, h => absurd h (Nat.not_lt_zero _)
  | _ :: _, _, 0, _ => rfl
  | _ :: e, r, i + 1, h => get_append_l (e := e) (r := r) (i := i) (Nat.lt_of_succ_lt_succ h)
theorem get_un : ∀ {e : Env} {n i : Nat}, e.length ≤ i → get (e ++ List.replicate n .un) i = .un
  | [], n, i, _ => by
    induction n generalizing i with
    | zero => rfl
    | succ n ih =>
      cases i with
      | zero => rfl
      | succ i => exact ih (i := i) (Nat.zero_le _)
  | _ :: _, _, 0, h => absurd h (by simp)
  | _ :: e, n, i + 1, h => get_un (e := e) (n := n) (i := i) (Nat.le_of_succ_le_succ h)
theorem get_map {K : PySem.W.Frag} {F : Hp} : ∀ {vs : List V} {ds : List D} {i : Nat}, RvA K F vs ds → i < ds.length → ∃ d v, get (ds.map .sh) i = .sh d ∧ vs[i]? = some v ∧ Rv K F v d
  | _, _, _, .nil, h => absurd h (Nat.not_lt_zero _)
  | _, _, 0, .cons h _, _ => ⟨_, _, rfl, rfl, h⟩
  | _, _, i + 1, .cons _ r, h => by
    obtain ⟨d, v, h1, h2, h3⟩ := get_map (i := i) r (Nat.lt_of_succ_lt_succ h)
    exact ⟨d, v, h1, by simpa using h2, h3⟩
section
variable {R : Res} {K : PySem.W.Frag}
theorem start_get {N : List Str} {vs : List V} {i : Nat} {v : V} (h : vs[i]? = some v) : (L2.start N vs)[i]? = some (some v) := by
  unfold L2.start
  have hi := (List.getElem?_eq_some_iff.mp h).1
  rw [List.getElem?_append_left (by simpa using hi), List.getElem?_map, h]
  rfl
theorem sta_start {F H : Hp} {N : List Str} {vs : List V} {ds : List D} (o : Ok R F H) (r : RvA K F vs ds) : Sta R K F H (startE N ds) (L2.start N vs) F H := by
  have hl := r.length
  refine ⟨o, .refl, ?_, fun i => ?_, fun i j h1 => ?_⟩
  · unfold startE L2.start
    simp [hl]
  · unfold startE
    by_cases hi : i < ds.length
    · rw [get_append_l (by simpa using hi)]
      obtain ⟨d, v, h1, h2, h3⟩ := get_map r hi
      rw [h1]
      exact ⟨v, start_get h2, h3⟩
    · rw [get_un (by simpa using Nat.le_of_not_lt hi)]
      trivial
  · exfalso
    unfold startE at h1
    by_cases hi : i < ds.length
    · rw [get_append_l (by simpa using hi)] at h1
      obtain ⟨d, v, h2, _⟩ := get_map r hi
      rw [h2] at h1
      cases h1
    · rw [get_un (by simpa using Nat.le_of_not_lt hi)] at h1
      cases h1
end

section
variable {P : Program} {w : World} {K : PySem.W.Frag} {mg : Str → Option Value} {base : Heap}
/-- a def that stands at f, by its body: t is the body's reading -/
theorem fnG_core {k : Nat} {f : Addr} {name qual : Str} {params : Arguments} {body : List Stmt} {scope : Scope} {dV kV doc pm cdv ct oc : Value} {an od : Option Addr} {osl : Array (Option Value)} {N ps : List Str} {sp : Sp}
    (lk : K.lookup f = some ⟨oc, od, .func (PySem.W.fnOf name qual params body scope dV kV doc pm an cdv ct), osl⟩) (hcd : PySem.W.codeIn K cdv qual = true) (S : FnScope N ps scope) (len : ∀ vs H Q E, sp vs H Q E → vs.length = ps.length)
    (hbody : ∀ (A : Around) (outer : List PySem.Env) (s : Shared) (H : Hp) (vs : List V) (Q : VK) (E : XK), A.guards = some [] → Room k (A.deeper (envOfC qual scope s.heap.objs.size f cdv)) → sp vs H Q E →
      ∃ t, PSs (cxOf (L2.CX P w) P w K mg base N qual scope f cdv A outer s H E) body t ∧ t { nx := fun _ H' => Q .non H', rt := Q } (L2.start N vs) H) : FnG P w K mg base (k + 1) f (PySem.W.fnOf name qual params body scope dV kV doc pm an cdv ct) ps sp := by
  constructor
  · exact len
  intro A outer s H args us vs Q E hg hr e0 hb r hsp
  have onBase : ∀ b o, base.get? b = some o → s.heap.get? b = some o := fun b o e => (e0.bs b o e).1
  have KX := e0.mod.kin.keeps onBase
  have lim := e0.mod.nolimit.keeps onBase
  have hkind : ∀ y ∈ ps.zip us, scope.names.lookup y.1 = some .local ∨ (scope.names.lookup y.1 = some .cell ∧ ((cellsFrom (s.heap.objs.size + 1) scope.names []).lookup y.1).isSome = true) := by
    rintro ⟨n, v⟩ hy
    refine (S.par n (List.of_mem_zip hy).1).imp id fun q => ⟨q, PySem.W.cellsFrom_some _ _ _ (.inl q)⟩
  refine codeAny_call_function hr.depth (KX _ _ lk) rfl S.co S.gen rfl (PySem.W.codeRec_of KX hcd) (hb _ _ _ _ (wpAny_newFunctionEnv_cells S.kind hkind ?_))
  rintro env rfl s1 x
  refine ⟨lim.keeps x.toInCall.keep, codeAny_func ?_⟩
  obtain ⟨t, ht, hq⟩ := hbody A outer s H vs Q E hg (hr.deeper _) hsp
  have I : Inv (cxOf (L2.CX P w) P w K mg base N qual scope f cdv A outer s H E) [] (L2.start N vs) H s1 := inv_start S hr.hd e0 (len _ _ _ _ hsp) r x
  refine wpAny_mono (ht.run [] s1 (L2.start N vs) H _ I hq) (fun fl s' hs => ?_) fun _ _ hs => hs
  cases fl with
  | brk => exact (let ⟨_, _, _, z⟩ := hs; z : False).elim
  | cont => exact (let ⟨_, _, _, z⟩ := hs; z : False).elim
  | ret u =>
    obtain ⟨v, σ', H', J, rv, z⟩ := hs
    exact ⟨v, H', J.os, J.bare, J.base, J.hok, rv, z⟩
  | next =>
    obtain ⟨σ', H', J, z⟩ := hs
    exact ⟨.non, H', J.os, J.bare, J.base, J.hok, rfl, z⟩
theorem fnG_of {k : Nat} {f : Addr} {x qual : Str} {st : Stmt} {fd : FuncData} {N ps : List Str} {sp : Sp} (F : Fun K x qual st f fd) (S : FnScope N ps (defScope st)) (len : ∀ vs H Q E, sp vs H Q E → vs.length = ps.length)
    (hbody : ∀ (cdv : Value) (A : Around) (outer : List PySem.Env) (s : Shared) (H : Hp) (vs : List V) (Q : VK) (E : XK), A.guards = some [] → Room k (A.deeper (envOfC qual (defScope st) s.heap.objs.size f cdv)) → sp vs H Q E →
      ∃ t, PSs (cxOf (L2.CX P w) P w K mg base N qual (defScope st) f cdv A outer s H E) (defBody st) t ∧ t { nx := fun _ H' => Q .non H', rt := Q } (L2.start N vs) H) : FnG P w K mg base (k + 1) f fd ps sp := by
  obtain ⟨oc, od, kV, doc, pm, an, cdv, ct, osl, rfl, lk, hcd⟩ := F.ex
  exact fnG_core lk hcd S len fun A outer s H vs Q E => hbody cdv A outer s H vs Q E
theorem passG {N : List Str} {qual : Str} {scope : Scope} {f : Addr} {cdv : Value} {A : Around} {outer : List PySem.Env} {s : Shared} {H : Hp} {E : XK} : Passes (L2.CX P w) (cxOf (L2.CX P w) P w K mg base N qual scope f cdv A outer s H E) E :=
  passes_call (takes_of rfl rfl rfl rfl) fun _ _ _ _ h => h
/-- within a comprehension nothing is raised -/
theorem passN {X : Cx} : Passes (L2.CX P w) X E0 := fun _ _ _ _ _ _ _ h => by
  obtain ⟨_, _, _, _, _, _, _, _, _, _, _, _, z⟩ := h
  exact z.elim
/-- THE RULE: a def by the meaning of its body over deep values -/
theorem def_ok {k : Nat} {f : Addr} {x qual : Str} {st : Stmt} {fd : FuncData} {N ps : List Str} {wf : WF} (F : Fun K x qual st f fd) (S : FnScope N ps (defScope st)) (len : ∀ R ds Xn Q', wf R ds Xn Q' → ds.length = ps.length)
    (hb : ∀ (R : Res) (cdv : Value) (A : Around) (outer : List PySem.Env) (s : Shared) (H : Hp) (E : XK), A.guards = some [] → Room k (A.deeper (envOfC qual (defScope st) s.heap.objs.size f cdv)) →
      Passes (L2.CX P w) (cxOf (L2.CX P w) P w K mg base N qual (defScope st) f cdv A outer s H E) E →
      ∃ ts ws, VB (cxOf (L2.CX P w) P w K mg base N qual (defScope st) f cdv A outer s H E) R E (defBody st) ts ws ∧
        ∀ ds Xn Q', wf R ds Xn Q' → ws (startE N ds) { nx := fun _ => Q' (.sh .non), rt := Q', bk := fun _ => False, ct := fun _ => False, xn := Xn }) : FnG P w K mg base (k + 1) f fd ps (spV K wf) := by
  refine fnG_of F S (fun vs H Q E h => ?_) fun cdv A outer s H vs Q E hg hr h => ?_
  · obtain ⟨R, F, ds, Xn, Q', o, r, _, _, hw⟩ := h
    rw [r.length]
    exact len R ds Xn Q' hw
  · obtain ⟨R, Fz, ds, Xn, Q', o, r, ws, k', hw⟩ := h
    obtain ⟨ts, wsb, hv, hq⟩ := hb R cdv A outer s H E hg hr passG
    refine ⟨ts, hv.p, hv.w Fz H _ _ Fz H _ { nx := fun _ => Q' (.sh .non), rt := Q', bk := fun _ => False, ct := fun _ => False, xn := Xn } (sta_start o r) ws ⟨fun env σ F' H' t q => ?_, fun _ _ _ _ _ q => q.elim, fun _ _ _ _ _ q => q.elim, fun v r F' H' s o rr q => k' v r F' H' s o rr q⟩ (hq ds Xn Q' hw)⟩
    exact k' .non (.sh .non) F' H' t.stp t.ok .non q
/-- .. an __init__ -/
theorem init_ok {k : Nat} {f C : Addr} {x qual : Str} {st : Stmt} {fd : FuncData} {N ps : List Str} {wi : WIn} (F : Fun K x qual st f fd) (S : FnScope N ps (defScope st)) (len : ∀ ds Xn Q', wi ds Xn Q' → ds.length + 1 = ps.length)
    (hb : ∀ (R : Res) (cdv : Value) (A : Around) (outer : List PySem.Env) (s : Shared) (H : Hp) (E : XK), A.guards = some [] → Room k (A.deeper (envOfC qual (defScope st) s.heap.objs.size f cdv)) →
      Passes (L2.CX P w) (cxOf (L2.CX P w) P w K mg base N qual (defScope st) f cdv A outer s H E) E →
      ∃ ts ws, VB (cxOf (L2.CX P w) P w K mg base N qual (defScope st) f cdv A outer s H E) R E (defBody st) ts ws ∧
        ∀ ds Xn Q', wi ds Xn Q' → ∀ x, ws (.oi C x [] :: (ds.map .sh ++ List.replicate (N.length - (ds.length + 1)) .un)) { nx := fun e => isInst C x Q' (get e 0), rt := fun _ => False, bk := fun _ => False, ct := fun _ => False, xn := Xn }) : FnG P w K mg base (k + 1) f fd ps (spI K C wi) := by
  refine fnG_of F S (fun vs H Q E h => ?_) fun cdv A outer s H vs Q E hg hr h => ?_
  · obtain ⟨R, F, ds, x, dx, us, Xn, Q', rfl, o, r, _, _, _, _, _, _, _, hw⟩ := h
    rw [List.length_cons, r.length]
    exact len ds Xn Q' hw
  · obtain ⟨R, Fz, ds, x, dx, us, Xn, Q', rfl, o, r, hx, fx, ax, fd, ad, ws, k', hw⟩ := h
    obtain ⟨ts, wsb, hv, hq⟩ := hb R cdv A outer s H E hg hr passG
    have st0 : Stp R Fz (less H x dx) Fz H := by
      have lw : ∀ p o, less H x dx p = some o → H p = some o := fun p o e => by
        unfold less at e
        by_cases q : p = x ∨ p = dx
        · rw [if_pos q] at e; cases e
        · rw [if_neg q] at e; exact e
      refine ⟨.refl _, fun p o e _ => lw p o e, fun _ _ n => n, fun p e => ?_⟩
      cases q : less H x dx p with
      | none => exact absurd q e
      | some o => rw [lw p o q]; simp
    have hl := r.length
    have t0 : Sta R K Fz (less H x dx) (.oi C x [] :: (ds.map .sh ++ List.replicate (N.length - (ds.length + 1)) .un)) (L2.start N (.ref x :: us)) Fz H := by
      refine ⟨o, st0, ?_, fun i => ?_, fun i j h1 h2 e => ?_⟩
      · unfold L2.start
        simp [hl]
      · cases i with
        | zero => exact ⟨x, dx, [], ⟨rfl, rfl⟩, by unfold less; rw [if_pos (.inl rfl)], fx, ax, hx, rfl, .nil⟩
        | succ i =>
          show SlotOk _ _ _ _ _ _ (get (ds.map .sh ++ _) i)
          by_cases hi : i < ds.length
          · rw [get_append_l (by simpa using hi)]
            obtain ⟨d, v, h1, h2, h3⟩ := get_map r hi
            rw [h1]
            exact ⟨v, start_get (by simpa using h2), h3⟩
          · rw [get_un (by simpa using Nat.le_of_not_lt hi)]
            trivial
      · have only : ∀ i, (get (.oi C x [] :: (ds.map .sh ++ List.replicate (N.length - (ds.length + 1)) .un)) i).own = true → i = 0 := fun i h => by
          cases i with
          | zero => rfl
          | succ i =>
            exfalso
            have h : (get (ds.map .sh ++ List.replicate (N.length - (ds.length + 1)) .un) i).own = true := h
            by_cases hi : i < ds.length
            · rw [get_append_l (by simpa using hi)] at h
              obtain ⟨d, v, h2, _⟩ := get_map r hi
              rw [h2] at h
              cases h
            · rw [get_un (by simpa using Nat.le_of_not_lt hi)] at h
              cases h
        rw [only i h1, only j h2]
    refine ⟨ts, hv.p, hv.w Fz (less H x dx) _ _ Fz H _ { nx := fun e => isInst C x Q' (get e 0), rt := fun _ => False, bk := fun _ => False, ct := fun _ => False, xn := Xn } t0 ws ⟨fun env σ F' H' t q => ?_, fun _ _ _ _ _ q => q.elim, fun _ _ _ _ _ q => q.elim, fun _ _ _ _ _ _ _ q => q.elim⟩ (hq ds Xn Q' hw x)⟩
    have z := t.sl 0
    have q2 : isInst C x Q' (get env 0) := q
    unfold isInst at q2
    cases hs : get env 0 <;> rw [hs] at q2 z <;> first | exact q2.elim | skip
    obtain ⟨e1, e2, q3⟩ := q2
    obtain ⟨p, dx', fs, ⟨_, e3⟩, z2, z3, z4, z5, z6, z7⟩ := z
    subst e1
    rw [e3, e2] at z5 z3
    exact k' _ fs F' H' t.stp t.ok ⟨dx', z5⟩ z3 z6 z7 q3
end
end VH

set_option Elab.async false
set_option maxRecDepth 100000
set_option linter.all false
set_option maxHeartbeats 2000000
namespace VH
open PySem L2
open PyProof.Rows (envOfC)

section
variable {X : Cx} {R : Res} {E : XK} {a b c e : Expr} {es : List Expr} {ta tb tc te : TE} {wa wb wc we : WE} {pos : Pos}
theorem v_var (i : Nat) {x : Str} (hN : X.N[i]? = some x := by rfl) (hv : Vis X.env.scope x := by first | exact Or.inl rfl | exact Or.inr (Or.inl rfl) | exact Or.inr (Or.inr rfl)) (hd : (x == ("__debug__" : Str)) = false := by decide)
    (hcd : (x == ("__classdict__" : Str)) = false := by decide) : VE X R E (.Name x pos) (tVar i) (wVar i) := ⟨pe_var hN hv hd hcd, evw_var⟩
theorem v_int {i j} : VE X R E (.Constant (.int i) j pos) (tC (.int i)) (wC (.int i)) := ⟨pe_int, evw_c fun _ => .int i⟩
theorem v_bl {b : Bool} {j} : VE X R E (.Constant (.bool b) j pos) (tC (.bl b)) (wC (.bl b)) := ⟨pe_bl, evw_c fun _ => .bl b⟩
theorem v_non {j} : VE X R E (.Constant .none j pos) (tC .non) (wC .non) := ⟨pe_non, evw_c fun _ => .non⟩
theorem v_str {x : Str} {j} : VE X R E (.Constant (.str x) j pos) (tC (.str x)) (wC (.str x)) := ⟨pe_str, evw_c fun _ => .str x⟩
theorem v_glob {x : Str} {v : V} {d : D} {u : Value} (hm : X.mg x = some u) (r : RelV v u) (h : ∀ F, Rv X.K F v d) (hg : Gl X x := by rfl) (hd : (x == ("__debug__" : Str)) = false := by decide) : VE X R E (.Name x pos) (tC v) (wC d) := ⟨pe_glob hg hm r hd, evw_c h⟩
theorem v_gint {x : Str} {i : Int} {t : Tok} (hm : X.mg x = some (.int i t)) (hg : Gl X x := by rfl) (hd : (x == ("__debug__" : Str)) = false := by decide) : VE X R E (.Name x pos) (tC (.int i)) (wC (.int i)) := v_glob hm ⟨t, rfl⟩ (fun _ => .int i) hg hd
theorem v_bltn {x : Str} {n : String} (hm : X.mg x = none) (hv : bootBuiltins x = some (.type n)) (hg : Gl X x := by rfl) (hn : x ≠ "__name__" := by decide) (hd : (x == ("__debug__" : Str)) = false := by decide) : VE X R E (.Name x pos) (tC (.ty n)) (wC (.ty n)) :=
  ⟨pe_bltn hg hm hv rfl hn hd, evw_c fun _ => .ty n⟩
/-! operators -/
theorem v_add (ha : VE X R E a ta wa) (hb : VE X R E b tb wb) : VE X R E (.BinOp a .Add b pos) (tOp (rAddAll X.K) ta tb) (wOp gAdd wa wb) := ⟨pe_op opr_add ha.p hb.p, evw_op opw_add ha.w hb.w⟩
theorem v_sub (ha : VE X R E a ta wa) (hb : VE X R E b tb wb) : VE X R E (.BinOp a .Sub b pos) (tOp (rI0 fun i j => .int (i - j)) ta tb) (wOp gMinus wa wb) := ⟨pe_op op_sub ha.p hb.p, evw_op opw_sub ha.w hb.w⟩
theorem v_mul (ha : VE X R E a ta wa) (hb : VE X R E b tb wb) : VE X R E (.BinOp a .Mult b pos) (tOp (rI CMulA fun i j => .int (i * j)) ta tb) (wOp gMul wa wb) := ⟨pe_op opr_mul ha.p hb.p, evw_op opw_mul ha.w hb.w⟩
theorem v_fdiv (ha : VE X R E a ta wa) (hb : VE X R E b tb wb) : VE X R E (.BinOp a .FloorDiv b pos) (tOp (rI CDivW fun i j => .int (i / j)) ta tb) (wOp gFdiv wa wb) := ⟨pe_op op_fdivW ha.p hb.p, evw_op opw_fdiv ha.w hb.w⟩
theorem v_mod (ha : VE X R E a ta wa) (hb : VE X R E b tb wb) : VE X R E (.BinOp a .Mod b pos) (tOp (rI (fun _ j => 0 < j) fun i j => .int (i % j)) ta tb) (wOp gMod wa wb) := ⟨pe_op op_mod ha.p hb.p, evw_op opw_mod ha.w hb.w⟩
theorem v_pow (ha : VE X R E a ta wa) (hb : VE X R E b tb wb) : VE X R E (.BinOp a .Pow b pos) (tOp (rI CPow fun i j => .int (i ^ j.toNat)) ta tb) (wOp gPow wa wb) := ⟨pe_op op_pow ha.p hb.p, evw_op opw_pow ha.w hb.w⟩
theorem v_neg (ha : VE X R E a ta wa) : VE X R E (.UnaryOp .USub a pos) (tUn (rU fun i => .int (-i)) ta) (wUn gNeg wa) := ⟨pe_un un_neg ha.p, evw_un unw_neg ha.w⟩
/-- a comparison: its rule, its meaning -/
structure CmpV (X : Cx) (R : Res) (op : CmpOp) (r : R2) (g : D → D → (Rs → Prop) → Prop) : Prop where
  cr : OpR X (compareOp op) r
  cw : OpW R X.K r g
theorem c_lt : CmpV X R .Lt (rI0 fun i j => .bl (decide (i < j))) gLt := ⟨op_lt, opw_lt⟩
theorem c_le : CmpV X R .LtE (rI0 fun i j => .bl (decide (i ≤ j))) gLe := ⟨op_le, opw_le⟩
theorem c_gt : CmpV X R .Gt (rI0 fun i j => .bl (decide (j < i))) gGt := ⟨op_gt, opw_gt⟩
theorem c_ge : CmpV X R .GtE (rI0 fun i j => .bl (decide (j ≤ i))) gGe := ⟨op_ge, opw_ge⟩
theorem c_eq {k : Nat} (hr : Room k X.A) : CmpV X R .Eq (rEqA X.K) gEq := ⟨opr_eq hr.units, opw_eq⟩
theorem c_ne {k : Nat} (hr : Room k X.A) : CmpV X R .NotEq (rNeA X.K) gNe := ⟨opr_ne hr.units, opw_ne⟩
theorem c_in {k : Nat} (hr : Room k X.A) : CmpV X R .In (rInA X.K false) gIn := ⟨opr_in (hu_of hr), opw_in⟩
theorem c_notIn {k : Nat} (hr : Room k X.A) : CmpV X R .NotIn (rInA X.K true) gNotIn := ⟨opr_notIn (hu_of hr), opw_in⟩
theorem c_is : CmpV X R .Is (fun x y H Q => y = .non ∧ Q (.bl (decide (x = .non))) H) gIsN := ⟨op_isN, opw_isN⟩
theorem c_isNot : CmpV X R .IsNot (fun x y H Q => y = .non ∧ Q (.bl (!decide (x = .non))) H) gNotN := ⟨op_notN, opw_notN⟩
variable {op op' : CmpOp} {r r' : R2} {g g' : D → D → (Rs → Prop) → Prop}
theorem v_cmp (h : CmpV X R op r g) (ha : VE X R E a ta wa) (hb : VE X R E b tb wb) (hm : behindInMarks op b = false := by first | exact nomark _ | rfl) : VE X R E (.Compare a [op] [b] pos) (tOp r ta tb) (wOp g wa wb) := ⟨pe_cmpR h.cr ha.p hb.p hm, evw_op h.cw ha.w hb.w⟩
theorem t_cmp (h : CmpV X R op r g) (ha : VE X R E a ta wa) (hb : VE X R E b tb wb) (hm : behindInMarks op b = false := by first | exact nomark _ | rfl) : VT X R E (.Compare a [op] [b] pos) (tTest (tOp r ta tb)) (wTest (wOp g wa wb)) :=
  ⟨pt_cmpR h.cr ha.p hb.p hm, etw_test (evw_op h.cw ha.w hb.w)⟩
theorem t_chain (h : CmpV X R op r g) (h' : CmpV X R op' r' g') (ha : VE X R E a ta wa) (hb : VE X R E b tb wb) (hc : VE X R E c tc wc) (hm : lastMarks [op, op'] [b, c] = false := by rfl) : VT X R E (.Compare a [op, op'] [b, c] pos) (tTest (tChain r r' ta tb tc)) (wTest (wChain g g' wa wb wc)) :=
  ⟨pt_chain h.cr h'.cr ha.p hb.p hc.p (hm := hm), etw_test (evw_chain h.cw h'.cw ha.w hb.w hc.w)⟩
theorem v_chain (h : CmpV X R op r g) (h' : CmpV X R op' r' g') (ha : VE X R E a ta wa) (hb : VE X R E b tb wb) (hc : VE X R E c tc wc) (hm : lastMarks [op, op'] [b, c] = false := by rfl) : VE X R E (.Compare a [op, op'] [b, c] pos) (tChain r r' ta tb tc) (wChain g g' wa wb wc) :=
  ⟨pe_chain h.cr h'.cr ha.p hb.p hc.p (hm := hm), evw_chain h.cw h'.cw ha.w hb.w hc.w⟩
/-! tests -/
variable {t1 t2 : TT} {w1 w2 : WT} {rest : List Expr}
structure VW (X : Cx) (R : Res) (E : XK) (e : Expr) (t : TT) (w : WT) : Prop where
  p : PW X e t
  w : EtW R X.K E t w
theorem w_and1 (h : VT X R E a t1 w1) : VW X R E (.BoolOp .And [a] pos) t1 w1 := ⟨pw_and1 h.p, h.w⟩
theorem w_or1 (h : VT X R E a t1 w1) : VW X R E (.BoolOp .Or [a] pos) t1 w1 := ⟨pw_or1 h.p, h.w⟩
theorem w_and (h : VT X R E a t1 w1) (h2 : VW X R E (.BoolOp .And (b :: rest) pos) t2 w2) : VW X R E (.BoolOp .And (a :: b :: rest) pos) (tAnd t1 t2) (wAnd w1 w2) := ⟨pw_and h.p h2.p, etw_and h.w h2.w⟩
theorem w_or (h : VT X R E a t1 w1) (h2 : VW X R E (.BoolOp .Or (b :: rest) pos) t2 w2) : VW X R E (.BoolOp .Or (a :: b :: rest) pos) (tOr t1 t2) (wOr w1 w2) := ⟨pw_or h.p h2.p, etw_or h.w h2.w⟩
theorem t_bool (h : VW X R E a t1 w1) : VT X R E a t1 w1 := ⟨h.p.pt, h.w⟩
theorem t_not (h : VT X R E a t1 w1) : VT X R E (.UnaryOp .Not a pos) (tNot t1) (wNot w1) := ⟨pt_not h.p, etw_not h.w⟩
theorem t_tru (h : VE X R E a ta wa) (he : ∀ whole, isTrue a X.env whole = (do let v ← whole; standAt a.pos; holding [v] (truthy v)) := by intro _; rfl) : VT X R E a (fun σ H Q => ta σ H fun x H' => ∃ k, TruV X.K x H' k ∧ Q k H') (wTru wa) := ⟨pt_truth h.p he, etw_tru h.w⟩
/-! values of and, or, not; a if t else b -/
theorem v_one {op : BoolOp} (h : VE X R E a ta wa) : VE X R E (.BoolOp op [a] pos) ta wa := ⟨pe_one h.p, h.w⟩
theorem v_and (ha : VE X R E a ta wa) (hb : VE X R E (.BoolOp .And (b :: rest) pos) tb wb) : VE X R E (.BoolOp .And (a :: b :: rest) pos) (tAndV ta tb) (wAndV wa wb) := ⟨pe_and ha.p hb.p, evw_and ha.w hb.w⟩
theorem v_or (ha : VE X R E a ta wa) (hb : VE X R E (.BoolOp .Or (b :: rest) pos) tb wb) : VE X R E (.BoolOp .Or (a :: b :: rest) pos) (tOrV ta tb) (wOrV wa wb) := ⟨pe_or ha.p hb.p, evw_or ha.w hb.w⟩
theorem v_not (ha : VE X R E a ta wa) : VE X R E (.UnaryOp .Not a pos) (tNotV ta) (wNotV wa) := ⟨pe_not ha.p, evw_not ha.w⟩
theorem v_if (hc : VT X R E c t1 w1) (ha : VE X R E a ta wa) (hb : VE X R E b tb wb) : VE X R E (.IfExp c a b pos) (tIf t1 ta tb) (wIf w1 wa wb) := ⟨pe_ifExp hc.p ha.p hb.p, evw_if hc.w ha.w hb.w⟩
/-! displays, indexes, fields, slices -/
variable {tA : TA} {wA : WA}
theorem a_nil : VA X R E [] tNil wNil := ⟨pa_nil, eaw_nil⟩
theorem a_cons (ha : VE X R E e te we) (hr : VA X R E es tA wA) (hs : starEach (e :: es) X.env = (false, eval e X.env) :: starEach es X.env := by rfl) : VA X R E (e :: es) (tCons te tA) (wCons we wA) := ⟨pa_cons ha.p hr.p hs, eaw_cons ha.w hr.w⟩
theorem v_tup {k} (h : VA X R E es tA wA) : VE X R E (.Tuple es k pos) (tTup tA) (wTup wA) := ⟨pe_tup h.p, evw_tup h.w⟩
theorem v_lst (h : VA X R E es tA wA) : VE X R E (.List es pos) (tLst tA) (wLst wA) := ⟨pe_lst h.p, evw_lst h.w⟩
theorem v_ix {k : Nat} (hr : Room k X.A) (ha : VE X R E a ta wa) (hb : VE X R E b tb wb) (hs : PlainIx b := by exact fun _ _ => rfl) : VE X R E (.Subscript a b pos) (tOp (rIxA X.K) ta tb) (wOp gIx wa wb) := ⟨pe_ix (ixr_all (hu_of hr)) ha.p hb.p hs, evw_op opw_ix ha.w hb.w⟩
theorem v_fld {f : Str} {Cs : List Addr} (hA : ∀ C ∈ Cs, Att X.K C f) (ha : VE X R E a ta wa) (hb : attributeBase a f X.env (eval a X.env) = eval a X.env := by rfl) : VE X R E (.Attribute a f pos) (tFld X.K ta f) (wFld Cs f wa) := ⟨pe_fld ha.p hb, evw_fld hA ha.w⟩
structure VO (X : Cx) (R : Res) (E : XK) (e : Option Expr) (t : TO) (w : WO) : Prop where
  p : PO X e t
  w : EoW R X.K E t w
theorem o_none : VO X R E none tNoPart wNoPart := ⟨po_none, eow_none⟩
theorem o_some (h : VE X R E e te we) : VO X R E (some e) (tPart te) (wPart we) := ⟨po_some h.p, eow_some h.w⟩
theorem v_sl {lo hi : Option Expr} {tl th : TO} {wl wh : WO} {p2 : Pos} (ha : VE X R E a ta wa) (hl : VO X R E lo tl wl) (hh : VO X R E hi th wh) : VE X R E (.Subscript a (.Slice lo hi none p2) pos) (tSl (rSlX X.K) ta tl th) (wSl wa wl wh) := ⟨pe_slice slr_all ha.p hl.p hh.p, evw_sl ha.w hl.w hh.w⟩
/-! built-in functions, types -/
variable {x : Str} {p : Pos} {id T : String} {rr : List V → Hp → VK → Prop} {g1 : D → (Rs → Prop) → Prop} {g2 : D → D → (Rs → Prop) → Prop}
theorem v_b1 (hc : CallR X (.builtin id) rr) (hw : UnW R X.K (fun x => rr [x]) g1) (hm : X.mg x = none) (hv : bootBuiltins x = some (.builtin id)) (ha : VE X R E a ta wa) (hg : Gl X x := by rfl) (hn : x ≠ "__name__" := by decide) (hdb : (x == ("__debug__" : Str)) = false := by decide)
    (he : starEach [a] X.env = (false, eval a X.env) :: starEach [] X.env := by rfl) (hpl : (backTo pos (starEach [] X.env)).any (·.1) = false := by rfl) : VE X R E (.Call (.Name x p) [a] [] pos) (tCB rr (tCons ta tNil)) (wUn g1 wa) :=
  ⟨pe_callB hc hg hm hv (pa_cons ha.p pa_nil he) hn hdb he hpl, evw_cb1 hw ha.w⟩
theorem v_b2 (hc : CallR X (.builtin id) rr) (hw : OpW R X.K (fun x y => rr [x, y]) g2) (hm : X.mg x = none) (hv : bootBuiltins x = some (.builtin id)) (ha : VE X R E a ta wa) (hb : VE X R E b tb wb) (hg : Gl X x := by rfl) (hn : x ≠ "__name__" := by decide) (hdb : (x == ("__debug__" : Str)) = false := by decide)
    (he : starEach [a, b] X.env = (false, eval a X.env) :: starEach [b] X.env := by rfl) (he2 : starEach [b] X.env = (false, eval b X.env) :: starEach [] X.env := by rfl) (hpl : (backTo pos (starEach [b] X.env)).any (·.1) = false := by rfl) :
    VE X R E (.Call (.Name x p) [a, b] [] pos) (tCB rr (tCons ta (tCons tb tNil))) (wOp g2 wa wb) :=
  ⟨pe_callB hc hg hm hv (pa_cons ha.p (pa_cons hb.p pa_nil he2) he) hn hdb he hpl, evw_cb2 hw ha.w hb.w⟩
theorem v_t1 (hc : CallR X (.type T) rr) (hw : UnW R X.K (fun x => rr [x]) g1) (hm : X.mg x = none) (hv : bootBuiltins x = some (.type T)) (ha : VE X R E a ta wa) (hg : Gl X x := by rfl) (hn : x ≠ "__name__" := by decide) (hdb : (x == ("__debug__" : Str)) = false := by decide)
    (he : starEach [a] X.env = (false, eval a X.env) :: starEach [] X.env := by rfl) (hpl : (backTo pos (starEach [] X.env)).any (·.1) = false := by rfl) : VE X R E (.Call (.Name x p) [a] [] pos) (tCB rr (tCons ta tNil)) (wUn g1 wa) :=
  ⟨pe_callTy hc hg hm hv (pa_cons ha.p pa_nil he) hn hdb he hpl, evw_cb1 hw ha.w⟩
/-! calls -/
variable {k : Nat} {f C : Addr} {fd : FuncData} {ps : List Str} {wf : WF} {wi : WIn} {m : Str} {o : Expr} {apos : Pos} {to : TE} {wo : WE}
theorem v_call (F : FnG X.prog X.w X.K X.mg X.base k f fd ps (spV X.K wf)) (G : Glob X.K X.mg x f fd ps) (hg : X.A.guards = some []) (hr : Room k X.A) (hx : Passes (L2.CX X.prog X.w) X E) (ha : VA X R E (e :: es) tA wA) (gl : Gl X x := by rfl)
    (hdb : (x == ("__debug__" : Str)) = false := by decide) (he : starEach (e :: es) X.env = (false, eval e X.env) :: starEach es X.env := by rfl) (hpl : (backTo pos (starEach es X.env)).any (·.1) = false := by rfl) :
    VE X R E (.Call (.Name x p) (e :: es) [] pos) (tCall (spV X.K wf) [] E tA) (wCall (wf R) wA) := ⟨pe_callG F G hg hr gl hx ha.p hdb he hpl, evw_call ha.w⟩
theorem v_call0 (F : FnG X.prog X.w X.K X.mg X.base k f fd ps (spV X.K wf)) (G : Glob X.K X.mg x f fd ps) (hg : X.A.guards = some []) (hr : Room k X.A) (hx : Passes (L2.CX X.prog X.w) X E) (gl : Gl X x := by rfl)
    (hdb : (x == ("__debug__" : Str)) = false := by decide) : VE X R E (.Call (.Name x p) [] [] pos) (tCall (spV X.K wf) [] E tNil) (wCall (wf R) wNil) := ⟨pe_callG0 F G hg hr gl hx hdb, evw_call eaw_nil⟩
theorem v_make (F : FnG X.prog X.w X.K X.mg X.base k f fd ps (spI X.K C wi)) (M : MakeG X.K X.mg x C f fd ps) (hg : X.A.guards = some []) (hr : Room (k + 1) X.A) (hx : Passes (L2.CX X.prog X.w) X E) (ha : VA X R E (e :: es) tA wA) (gl : Gl X x := by rfl)
    (hdb : (x == ("__debug__" : Str)) = false := by decide) (he : starEach (e :: es) X.env = (false, eval e X.env) :: starEach es X.env := by rfl) (hpl : (backTo pos (starEach es X.env)).any (·.1) = false := by rfl) :
    VE X R E (.Call (.Name x p) (e :: es) [] pos) (tMake C (spI X.K C wi) [] E tA) (wMake C wi wA) := ⟨pe_makeG M F hg hr gl hx ha.p hdb he hpl, evw_make ha.w⟩
theorem v_meth {pl : Sem Bool} (ho : VE X R E o to wo) (M : MethG X.K C m f fd ps) (F : FnG X.prog X.w X.K X.mg X.base k f fd ps (spV X.K wf)) (hg : X.A.guards = some []) (hr : Room k X.A) (hx : Passes (L2.CX X.prog X.w) X E) (ha : VA X R E (e :: es) tA wA)
    (hst : starEach (e :: es) X.env = (false, eval e X.env) :: starEach es X.env := by rfl) (hpl : (backTo pos (starEach es X.env)).any (·.1) = false := by rfl)
    (ht : eval (.Call (.Attribute o m apos) (e :: es) [] pos) X.env = (do let ov ← eval o X.env; standAt apos.atName; let (f, first) ← holding [ov] (getMethod ov m pl); callWith pos f first (backTo pos (starEach (e :: es) X.env)) (backToKw pos (keywordEach [] X.env))) := by rfl) :
    VE X R E (.Call (.Attribute o m apos) (e :: es) [] pos) (tMeth C m (spV X.K wf) [] E to tA) (wMeth [C] m (wf R) wo wA) := ⟨pe_methG ho.p M F hg hr hx ha.p hst hpl ht, evw_meth ho.w ha.w⟩
theorem v_meth0 {pl : Sem Bool} (ho : VE X R E o to wo) (M : MethG X.K C m f fd ps) (F : FnG X.prog X.w X.K X.mg X.base k f fd ps (spV X.K wf)) (hg : X.A.guards = some []) (hr : Room k X.A) (hx : Passes (L2.CX X.prog X.w) X E)
    (ht : eval (.Call (.Attribute o m apos) [] [] pos) X.env = (do let ov ← eval o X.env; standAt apos.atName; let (f, first) ← holding [ov] (getMethod ov m pl); callWith pos f first (backTo pos (starEach [] X.env)) (backToKw pos (keywordEach [] X.env))) := by rfl) :
    VE X R E (.Call (.Attribute o m apos) [] [] pos) (tMeth C m (spV X.K wf) [] E to tNil) (wMeth [C] m (wf R) wo wNil) := ⟨pe_methG0 ho.p M F hg hr hx ht, evw_meth ho.w eaw_nil⟩
end

/-! ### what is walked, targets -/
structure VI (X : Cx) (R : Res) (E : XK) (tg iter : Expr) (t : TI) (w : WI) : Prop where
  p : PI X tg iter t
  w : IvW R X.K E t w
structure VG (X : Cx) (R : Res) (tg : Expr) (t : TG) (is : List Nat) (w : D → Env → (Env → Prop) → Prop) : Prop where
  p : PG X tg t
  w : TgW R X.K t is w
structure VGs (X : Cx) (R : Res) (tg : List Expr) (t : TGs) (is : List Nat) : Prop where
  p : PGs X tg t
  w : TgsW R X.K t is
section
variable {X : Cx} {R : Res} {E : XK} {tg a b e : Expr} {ta tb te : TE} {wa wb we : WE} {p pos : Pos}
theorem i_seq (h : VE X R E e te we) : VI X R E tg e (iSeq X.K te) (wISeq we) := ⟨pi_seq h.p, ivw_seq h.w⟩
theorem i_rng1 (hm : X.mg "range" = none) (ha : VE X R E a ta wa) (hg : Gl X "range" := by rfl) (h1 : starEach [a] X.env = (false, eval a X.env) :: starEach [] X.env := by rfl) (hs : starEach [a] X.env = [(false, eval a X.env)] := by rfl) : VI X R E tg (.Call (.Name "range" p) [a] [] pos) (iRng1 (tCons ta tNil)) (wIRng1 wa) :=
  ⟨pi_range1 hg hm (pa_cons ha.p pa_nil h1) hs, ivw_rng1 ha.w⟩
theorem i_rng2 (hm : X.mg "range" = none) (ha : VE X R E a ta wa) (hb : VE X R E b tb wb) (hg : Gl X "range" := by rfl) (h1 : starEach [a, b] X.env = (false, eval a X.env) :: starEach [b] X.env := by rfl) (h2 : starEach [b] X.env = (false, eval b X.env) :: starEach [] X.env := by rfl)
    (hs : starEach [a, b] X.env = [(false, eval a X.env), (false, eval b X.env)] := by rfl) (hs2 : starEach [b] X.env = [(false, eval b X.env)] := by rfl) : VI X R E tg (.Call (.Name "range" p) [a, b] [] pos) (iRng2 (tCons ta (tCons tb tNil))) (wIRng2 wa wb) :=
  ⟨pi_range2 hg hm (pa_cons ha.p (pa_cons hb.p pa_nil h2) h1) hs hs2, ivw_rng2 ha.w hb.w⟩
theorem g_name (i : Nat) {x : Str} (hN : X.N.Nodup) (hi : X.N[i]? = some x := by rfl) (hx : Loc X.env.scope x := by first | exact Or.inl rfl | exact Or.inr rfl) (hf : X.fn x = true ∨ X.env.scope.names.lookup x = some .local := by first | exact .inl rfl | exact .inr rfl) : VG X R (.Name x pos) (gName i) [i] (wgN i) :=
  ⟨pg_name hN hi hx hf, tgw_name⟩
theorem gs_nil : VGs X R [] gNil [] := ⟨pgs_nil, tgsw_nil⟩
theorem gs_cons (i : Nat) {x : Str} {es : List Expr} {t : TGs} {is : List Nat} (hN : X.N.Nodup) (h : VGs X R es t is) (hi : X.N[i]? = some x := by rfl) (hx : Loc X.env.scope x := by first | exact Or.inl rfl | exact Or.inr rfl) (hf : X.fn x = true ∨ X.env.scope.names.lookup x = some .local := by first | exact .inl rfl | exact .inr rfl)
    (hs : (assignEach (.Name x pos :: es) X.env).map (·.2) = assign (.Name x pos) X.env :: (assignEach es X.env).map (·.2) := by rfl) : VGs X R (.Name x pos :: es) (gCons (gName i) t) (i :: is) := ⟨pgs_cons (pg_name hN hi hx hf) h.p hs, tgsw_cons h.w⟩
theorem g_tup {es : List Expr} {k n : Nat} {t : TGs} {is : List Nat} (hc : X.calm = true) (h : VGs X R es t is) (hl : is.length = n := by rfl) (hn : (assignEach es X.env).length = n := by rfl) (hst : (assignEach es X.env).findIdx? (·.1) = none := by rfl) : VG X R (.Tuple es k pos) (gTup X.K n t) is (wgT is) :=
  ⟨pg_tup hc h.p hn hst, tgw_tup hl h.w⟩
/-! comprehensions -/
structure VTs (X : Cx) (R : Res) (E : XK) (e : List Expr) (t : TT) (w : WT) : Prop where
  p : PTs X e t
  w : EtW R X.K E t w
theorem ts_nil : VTs X R E [] tYes wYes := ⟨pts_nil, etw_yes⟩
theorem ts_one {c : Expr} {t : TT} {w : WT} (h : VT X R E c t w) : VTs X R E [c] t w := ⟨pts_one h.p, h.w⟩
variable {elt iter : Expr} {ifs : List Expr} {scope : Scope} {own : List (Str × Nat)} {ti : TI} {wi : WI} {g : Shared → Hp → Addr → List (Str × Addr) → List Addr → TG} {is : List Nat} {wg : D → Env → (Env → Prop) → Prop} {tt : Shared → Hp → Addr → List (Str × Addr) → List Addr → TT} {te : Shared → Hp → Addr → List (Str × Addr) → List Addr → TE} {wt : WT}
theorem v_lc (hc : X.calm = true) (hN : X.N.Nodup) (hi : VI X R E tg iter ti wi) (ok : blkC X.N X.env.scope scope own = true)
    (hg : ∀ (s : Shared) (H : Hp) (C : Addr) (cl : List (Str × Addr)) (fp : List Addr), VG (X.blk s H scope (compEnvC scope cl C X.env) fp) R tg (g s H C cl fp) is wg)
    (ht : ∀ (s : Shared) (H : Hp) (C : Addr) (cl : List (Str × Addr)) (fp : List Addr), VTs (X.blk s H scope (compEnvC scope cl C X.env) fp) R E0 ifs (tt s H C cl fp) wt)
    (he : ∀ (s : Shared) (H : Hp) (C : Addr) (cl : List (Str × Addr)) (fp : List Addr), VE (X.blk s H scope (compEnvC scope cl C X.env) fp) R E0 elt (te s H C cl fp) we)
    (his : ∀ i ∈ is, i ∈ own.map (·.2) := by decide) (eg : ∀ (s : Shared) (H : Hp) (C : Addr) (cl : List (Str × Addr)) (fp : List Addr), g s H C cl fp = g X.s_0 X.H_0 0 [] [] := by intros; rfl) (et : ∀ (s : Shared) (H : Hp) (C : Addr) (cl : List (Str × Addr)) (fp : List Addr), tt s H C cl fp = tt X.s_0 X.H_0 0 [] [] := by intros; rfl) (ee : ∀ (s : Shared) (H : Hp) (C : Addr) (cl : List (Str × Addr)) (fp : List Addr), te s H C cl fp = te X.s_0 X.H_0 0 [] [] := by intros; rfl) (hs : ∀ x, foldedSetIterable iter X.env x = pure x := by intro _; rfl) : VE X R E (.ListComp elt [⟨tg, iter, ifs, 0⟩] scope pos) (tLc ti (g X.s_0 X.H_0 0 [] []) (tt X.s_0 X.H_0 0 [] []) (te X.s_0 X.H_0 0 [] []) (own.map (·.2))) (wLc wi wg wt we (own.map (·.2))) :=
  ⟨pe_lc hc hN hi.p (blkOk_by ok) (fun s H C cl fp => by rw [← eg s H C cl fp]; exact (hg s H C cl fp).p) (fun s H C cl fp => by rw [← et s H C cl fp]; exact (ht s H C cl fp).p) (fun s H C cl fp => by rw [← ee s H C cl fp]; exact (he s H C cl fp).p) hs,
    evw_lc hi.w (hg X.s_0 X.H_0 0 [] []).w his (ht X.s_0 X.H_0 0 [] []).w (he X.s_0 X.H_0 0 [] []).w⟩
theorem s_setLc (i : Nat) {y : Str} {py spos : Pos} (hc : X.calm = true) (hN : X.N.Nodup) (hi : VI X R E tg iter ti wi) (ok : blkC X.N X.env.scope scope own = true)
    (hg : ∀ (s : Shared) (H : Hp) (C : Addr) (cl : List (Str × Addr)) (fp : List Addr), VG (X.blk s H scope (compEnvC scope cl C X.env) fp) R tg (g s H C cl fp) is wg)
    (ht : ∀ (s : Shared) (H : Hp) (C : Addr) (cl : List (Str × Addr)) (fp : List Addr), VTs (X.blk s H scope (compEnvC scope cl C X.env) fp) R E0 ifs (tt s H C cl fp) wt)
    (he : ∀ (s : Shared) (H : Hp) (C : Addr) (cl : List (Str × Addr)) (fp : List Addr), VE (X.blk s H scope (compEnvC scope cl C X.env) fp) R E0 elt (te s H C cl fp) we)
    (hsw : swapsWith (.ListComp elt [⟨tg, iter, ifs, 0⟩] scope pos) (some (.Name y py)) spos.line X.env = pure true) (hy : X.N[i]? = some y := by rfl) (hyl : X.env.scope.names.lookup y = some .local := by rfl)
    (his : ∀ i ∈ is, i ∈ own.map (·.2) := by decide) (eg : ∀ (s : Shared) (H : Hp) (C : Addr) (cl : List (Str × Addr)) (fp : List Addr), g s H C cl fp = g X.s_0 X.H_0 0 [] [] := by intros; rfl) (et : ∀ (s : Shared) (H : Hp) (C : Addr) (cl : List (Str × Addr)) (fp : List Addr), tt s H C cl fp = tt X.s_0 X.H_0 0 [] [] := by intros; rfl) (ee : ∀ (s : Shared) (H : Hp) (C : Addr) (cl : List (Str × Addr)) (fp : List Addr), te s H C cl fp = te X.s_0 X.H_0 0 [] [] := by intros; rfl) (hs : ∀ x, foldedSetIterable iter X.env x = pure x := by intro _; rfl) : VS X R E (.Assign [.Name y py] (.ListComp elt [⟨tg, iter, ifs, 0⟩] scope pos) spos) (tAsg (tLc ti (g X.s_0 X.H_0 0 [] []) (tt X.s_0 X.H_0 0 [] []) (te X.s_0 X.H_0 0 [] []) (own.map (·.2))) (gName i)) (wAsg i (wLc wi wg wt we (own.map (·.2)))) :=
  ⟨ps_setLc hc hN hy hyl hsw hi.p (blkOk_by ok) (fun s H C cl fp => by rw [← eg s H C cl fp]; exact (hg s H C cl fp).p) (fun s H C cl fp => by rw [← et s H C cl fp]; exact (ht s H C cl fp).p) (fun s H C cl fp => by rw [← ee s H C cl fp]; exact (he s H C cl fp).p) hs,
    esw_asg (evw_lc hi.w (hg X.s_0 X.H_0 0 [] []).w his (ht X.s_0 X.H_0 0 [] []).w (he X.s_0 X.H_0 0 [] []).w)⟩
end

/-! ### statements -/
section
variable {X : Cx} {R : Res} {E : XK} {st : Stmt} {rest body orelse : List Stmt} {t u : TS} {w wu : WS} {e o c : Expr} {te ti : TE} {we wi : WE} {pos pos' tpos p : Pos} {x : Str}
theorem b_nil : VB X R E [] tNext wNext := ⟨pss_nil, esw_next⟩
theorem b_cons (h1 : VS X R E st t w) (h2 : VB X R E rest u wu) : VB X R E (st :: rest) (tSeq t u) (wSeq w wu) := ⟨pss_cons h1.p h2.p, esw_seq h1.w h2.w⟩
theorem b_one (h1 : VS X R E st t w) : VB X R E [st] t w := ⟨pss_one h1.p, h1.w⟩
/-- the own list of slot i is frozen here -/
theorem b_frz (i : Nat) (h : VB X R E rest t w) : VB X R E rest t (wFrz i w) := ⟨h.p, esw_frz h.w⟩
theorem s_set (i : Nat) (hN : X.N.Nodup) (he : VE X R E e te we) (hi : X.N[i]? = some x := by rfl) (hx : Loc X.env.scope x := by first | exact Or.inl rfl | exact Or.inr rfl) (hs : swapsWith e (some (.Name x pos')) pos.line X.env = pure false := by rfl)
    (hf : X.fn x = true ∨ X.env.scope.names.lookup x = some .local := by first | exact .inl rfl | exact .inr rfl) : VS X R E (.Assign [.Name x pos'] e pos) (tAsg te (gName i)) (wAsg i we) := ⟨ps_set hN hi hx he.p hs hf, esw_asg he.w⟩
theorem s_asgG {tg : Expr} {g : TG} {is : List Nat} {wg : D → Env → (Env → Prop) → Prop} (he : VE X R E e te we) (hg : VG X R tg g is wg) (hs : swapsWithSole [tg] e pos.line X.env = pure false := by rfl) (hw : swappedStores [tg] e X.env = pure none := by rfl)
    (h1 : (assignEach [tg] X.env).map (·.2) = [assign tg X.env] := by rfl) : VS X R E (.Assign [tg] e pos) (tAsg te g) (wAsgG wg we) := ⟨ps_asg he.p hg.p hs hw h1, esw_asgG he.w hg.w⟩
theorem s_expr (he : VE X R E e te we) (hs : swapsWith e none pos.line X.env = pure false := by rfl) : VS X R E (.Expr e pos) (tDrop te) (wDrop we) := ⟨ps_expr he.p hs, esw_drop he.w⟩
theorem s_ret (he : VE X R E e te we) : VS X R E (.Return (some e) pos) (tRet te) (wRet we) := ⟨ps_ret he.p, esw_ret he.w⟩
theorem s_retV (i : Nat) (hN : X.N[i]? = some x := by rfl) (hv : Vis X.env.scope x := by first | exact Or.inl rfl | exact Or.inr (Or.inl rfl) | exact Or.inr (Or.inr rfl)) (hd : (x == ("__debug__" : Str)) = false := by decide)
    (hcd : (x == ("__classdict__" : Str)) = false := by decide) : VS X R E (.Return (some (.Name x p)) pos) (tRet (tVar i)) (wRetV i) := ⟨ps_ret (pe_var hN hv hd hcd), esw_retV⟩
theorem s_retN : VS X R E (.Return none pos) tRetN wRetN := ⟨ps_retN, esw_retN⟩
theorem s_pass : VS X R E (.Pass pos) tNext wNext := ⟨ps_pass, esw_next⟩
theorem s_break : VS X R E (.Break pos) tBreak wBreak := ⟨ps_break, esw_break⟩
theorem s_continue : VS X R E (.Continue pos) tCont wCont := ⟨ps_continue, esw_cont⟩
theorem s_if {tt : TT} {wt : WT} (hc : VT X R E c tt wt) (ha : VB X R E body t w) (hb : VB X R E orelse u wu) : VS X R E (.If c body orelse pos) (tIfS tt t u) (wIfS wt w wu) := ⟨ps_if hc.p ha.p hb.p, esw_if hc.w ha.w hb.w⟩
theorem s_for {tg iter : Expr} {tI : TI} {wI : WI} {g : TG} {is : List Nat} {wg : D → Env → (Env → Prop) → Prop} (hp : PassesOwn (model X.prog X.w) X.A X.env X.xe) (hc : X.calm = true) (hi : VI X R E tg iter tI wI) (hg : VG X R tg g is wg) (hb : VB X R E body t w)
    (hs : ∀ x, foldedSetIterable iter X.env x = pure x := by intro _; rfl) : VS X R E (.For tg iter body [] pos) (tFor tI g t) (wFor wI wg w) := ⟨ps_for hp hc hi.p hg.p hb.p hs, esw_for hi.w hg.w hb.w⟩
theorem s_while {tt : TT} {wt : WT} (hp : PassesOwn (model X.prog X.w) X.A X.env X.xe) (hc : VT X R E c tt wt) (hb : VB X R E body t w) : VS X R E (.While c body [] pos) (tWhile tt t) (wWhile wt w) := ⟨ps_while hp hc.p hb.p, esw_while hc.w hb.w⟩
/-- x.append(e) -/
theorem s_app (i : Nat) {apos cpos : Pos} (he : VE X R E e te we) (hN : X.N[i]? = some x := by rfl) (hv : Vis X.env.scope x := by first | exact Or.inl rfl | exact Or.inr (Or.inl rfl) | exact Or.inr (Or.inr rfl)) (hd : (x == ("__debug__" : Str)) = false := by decide)
    (hcd : (x == ("__classdict__" : Str)) = false := by decide) (h1 : starEach [e] X.env = (false, eval e X.env) :: starEach [] X.env := by rfl)
    (hbase : attributeBase (.Name x p) "append" X.env (eval (.Name x p) X.env) = eval (.Name x p) X.env := by rfl)
    (hfew : ((backTo cpos (starEach [e] X.env)).all (fun x => !x.1) && (backToKw cpos (keywordEach [] X.env)).all (fun x => x.1.isSome) && decide ([e].length + ([] : List Keyword).length + (if ([] : List Keyword).isEmpty then 0 else 1) < 30)) = true := by rfl)
    (hline : (apos.endLine == cpos.line) = true := by rfl) (hpl : (backTo cpos (starEach [] X.env)).any (·.1) = false := by rfl) (hs : swapsWith (.Call (.Attribute (.Name x p) "append" apos) [e] [] cpos) none pos.line X.env = pure false := by rfl) :
    VS X R E (.Expr (.Call (.Attribute (.Name x p) "append" apos) [e] [] cpos) pos) (tDrop (tBM X.K "list" rAppend (tVar i) (tCons te tNil))) (wApp i we) :=
  ⟨ps_expr (pe_bm PySem.F.plainAttrs_list PySem.F.slot_list_append PySem.F.type_list_append mt_append (pe_var hN hv hd hcd) (pa_cons he.p pa_nil h1) hbase hfew hline h1 hpl) hs, esw_app he.w⟩
/-- x.extend(e) -/
theorem s_ext (i : Nat) {apos cpos : Pos} (he : VE X R E e te we) (hN : X.N[i]? = some x := by rfl) (hv : Vis X.env.scope x := by first | exact Or.inl rfl | exact Or.inr (Or.inl rfl) | exact Or.inr (Or.inr rfl)) (hd : (x == ("__debug__" : Str)) = false := by decide)
    (hcd : (x == ("__classdict__" : Str)) = false := by decide) (h1 : starEach [e] X.env = (false, eval e X.env) :: starEach [] X.env := by rfl)
    (hbase : attributeBase (.Name x p) "extend" X.env (eval (.Name x p) X.env) = eval (.Name x p) X.env := by rfl)
    (hfew : ((backTo cpos (starEach [e] X.env)).all (fun x => !x.1) && (backToKw cpos (keywordEach [] X.env)).all (fun x => x.1.isSome) && decide ([e].length + ([] : List Keyword).length + (if ([] : List Keyword).isEmpty then 0 else 1) < 30)) = true := by rfl)
    (hline : (apos.endLine == cpos.line) = true := by rfl) (hpl : (backTo cpos (starEach [] X.env)).any (·.1) = false := by rfl) (hs : swapsWith (.Call (.Attribute (.Name x p) "extend" apos) [e] [] cpos) none pos.line X.env = pure false := by rfl) :
    VS X R E (.Expr (.Call (.Attribute (.Name x p) "extend" apos) [e] [] cpos) pos) (tDrop (tBM X.K "list" rExtend (tVar i) (tCons te tNil))) (wExt i we) :=
  ⟨ps_expr (pe_bm PySem.F.plainAttrs_list PySem.F.slot_list_extend PySem.F.type_list_extend mt_extend (pe_var hN hv hd hcd) (pa_cons he.p pa_nil h1) hbase hfew hline h1 hpl) hs, esw_ext he.w⟩
/-- y = x.pop() -/
theorem s_pop (j i : Nat) {y : Str} {apos cpos : Pos} (nd : X.N.Nodup) (hj : X.N[j]? = some y := by rfl) (hy : Loc X.env.scope y := by first | exact Or.inl rfl | exact Or.inr rfl) (hf : X.fn y = true ∨ X.env.scope.names.lookup y = some .local := by first | exact .inl rfl | exact .inr rfl)
    (hN : X.N[i]? = some x := by rfl) (hv : Vis X.env.scope x := by first | exact Or.inl rfl | exact Or.inr (Or.inl rfl) | exact Or.inr (Or.inr rfl)) (hd : (x == ("__debug__" : Str)) = false := by decide) (hcd : (x == ("__classdict__" : Str)) = false := by decide)
    (hbase : attributeBase (.Name x p) "pop" X.env (eval (.Name x p) X.env) = eval (.Name x p) X.env := by rfl) (hline : (apos.endLine == cpos.line) = true := by rfl)
    (hs : swapsWith (.Call (.Attribute (.Name x p) "pop" apos) [] [] cpos) (some (.Name y pos')) pos.line X.env = pure false := by rfl) :
    VS X R E (.Assign [.Name y pos'] (.Call (.Attribute (.Name x p) "pop" apos) [] [] cpos) pos) (tAsg (tBM0 X.K "list" rPop (tVar i)) (gName j)) (wPop j i) :=
  ⟨ps_set nd hj hy (pe_bm0 PySem.F.plainAttrs_list PySem.F.slot_list_pop PySem.F.type_list_pop mt_pop (pe_var hN hv hd hcd) hbase hline) hs hf, esw_pop⟩
/-- x[k] = e -/
theorem s_put (i : Nat) {k : Nat} {b : Expr} (hr : Room k X.A) (he : VE X R E e te we) (hi : VE X R E b ti wi) (hN : X.N[i]? = some x := by rfl) (hv : Vis X.env.scope x := by first | exact Or.inl rfl | exact Or.inr (Or.inl rfl) | exact Or.inr (Or.inr rfl)) (hd : (x == ("__debug__" : Str)) = false := by decide)
    (hcd : (x == ("__classdict__" : Str)) = false := by decide) (hs : swapsWithSole [.Subscript (.Name x p) b tpos] e pos.line X.env = pure false := by rfl) (hw : swappedStores [.Subscript (.Name x p) b tpos] e X.env = pure none := by rfl)
    (h1 : (assignEach [.Subscript (.Name x p) b tpos] X.env).map (·.2) = [assign (.Subscript (.Name x p) b tpos) X.env] := by rfl)
    (ha : ∀ v, assign (.Subscript (.Name x p) b tpos) X.env v = (do let ov ← holding [v] (eval (.Name x p) X.env); let iv ← holding [v, ov] (eval b X.env); standAt tpos; holding [v, ov, iv] (setItem ov iv v); release [v, ov, iv] []) := by intro _; rfl) :
    VS X R E (.Assign [.Subscript (.Name x p) b tpos] e pos) (tAsg te (gSub (tVar i) ti rSetA)) (wSet i wi we) :=
  ⟨ps_asg he.p (pg_sub (pe_var hN hv hd hcd) hi.p (set_all (hu_of hr)) ha) hs hw h1, esw_set he.w hi.w⟩
/-- x[k] op= e (ints) -/
theorem s_augS (i : Nat) {k : Nat} {b : Expr} {op : Operator} {f : Int → Int → Int} (hr : Room k X.A) (ho : PIp X op (ipI f)) (he : VE X R E e te we) (hi : VE X R E b ti wi) (hN : X.N[i]? = some x := by rfl) (hv : Vis X.env.scope x := by first | exact Or.inl rfl | exact Or.inr (Or.inl rfl) | exact Or.inr (Or.inr rfl))
    (hd : (x == ("__debug__" : Str)) = false := by decide) (hcd : (x == ("__classdict__" : Str)) = false := by decide)
    (ha : ∀ ov iv new, augStore b ov iv new = (do holding [new, ov, iv] (setItem ov iv new); release [new, ov, iv] []; pure .next) := by intros; rfl) :
    VS X R E (.AugAssign (.Subscript (.Name x p) b tpos) op e pos) (tAugS (tVar i) ti te (rGetA X.K) (ipI f) rSetA) (wAugS i f wi we) :=
  ⟨ps_augS (pe_var hN hv hd hcd) hi.p (get_all (hu_of hr)) he.p ho (set_all (hu_of hr)) ha, esw_augS he.w hi.w⟩
theorem s_aug (i : Nat) {op : Operator} {f : Int → Int → Int} (hN : X.N.Nodup) (ho : PIp X op (ipI f)) (he : VE X R E e te we) (hi : X.N[i]? = some x := by rfl) (hx : Loc X.env.scope x := by first | exact Or.inl rfl | exact Or.inr rfl)
    (hf : X.fn x = true ∨ X.env.scope.names.lookup x = some .local := by first | exact .inl rfl | exact .inr rfl) : VS X R E (.AugAssign (.Name x pos') op e pos) (tAug i te (ipI f)) (wAug i f we) := ⟨ps_aug hN hi hx he.p ho hf, esw_aug he.w⟩
/-- self.f = e in an __init__ -/
theorem s_fld (i : Nat) {f : Str} {Cs : List Addr} (hA : ∀ C ∈ Cs, Att X.K C f) (he : VE X R E e te we) (hN : X.N[i]? = some x := by rfl) (hv : Vis X.env.scope x := by first | exact Or.inl rfl | exact Or.inr (Or.inl rfl) | exact Or.inr (Or.inr rfl)) (hd : (x == ("__debug__" : Str)) = false := by decide)
    (hcd : (x == ("__classdict__" : Str)) = false := by decide) (hs : swapsWith e (some (.Attribute (.Name x p) f pos')) pos.line X.env = pure false := by rfl) :
    VS X R E (.Assign [.Attribute (.Name x p) f pos'] e pos) (sFld X.K (tVar i) te f) (wFldS Cs i f we) := ⟨ps_fld (pe_var hN hv hd hcd) he.p hs, esw_fldS hA he.w⟩
end
end VH

set_option Elab.async false
set_option maxRecDepth 100000
set_option linter.all false
set_option maxHeartbeats 2000000
/-! VH7: the end of a law row for defs of VH: the call at the top, where no guard stands. -/
namespace VH
open PySem L2
open PySem.Spec PyProof.Rows

/-- what the script's heap is at the entry: the script frozen, or nothing tracked where the script is an object of the module -/
def scriptH (K : PySem.W.Frag) (a : Addr) (vs : List Value) (ns : List Int) : Hp := fun b =>
  if b = a ∧ K.lookup a = none then some (.frz { cls := .type "list", data := .seq vs.toArray } (.lst (ns.map V.int))) else none
section
variable {P : Program} {w : World} {K : PySem.W.Frag} {mg mb : Str → Option Value} {k : Nat} {fa a : Addr} {fd : FuncData} {x : Str} {sp : Sp} {s₁ : Shared} {vs : List Value} {ns : List Int}
theorem scriptH_a {b : Addr} {u : HO} (h : scriptH K a vs ns b = some u) : b = a ∧ K.lookup a = none ∧ u = .frz { cls := .type "list", data := .seq vs.toArray } (.lst (ns.map V.int)) := by
  unfold scriptH at h
  by_cases c : b = a ∧ K.lookup a = none
  · rw [if_pos c] at h
    exact ⟨c.1, c.2, (Option.some.inj h).symm⟩
  · rw [if_neg c] at h
    cases h
theorem law_G (KX : K.In s₁.heap) (hns : s₁.heap.Ns mainGlobals mg) (hb : s₁.heap.Ns builtinsNs mb) (hbb : ∀ x : Str, x ≠ "__name__" → mb x = bootBuiltins x) (hlim : s₁.heap.NoLimit) (hg : s₁.gens = #[])
    (ha : s₁.heap.get? a = some { cls := .type "list", data := .seq vs.toArray }) (hi : IntsAre vs ns) (hl : ns.length ≤ sizeLine) (hr : Room k callerA)
    (F : ∀ base : Heap, K.In base → base.Ns mainGlobals mg → FnG P w K mg base k fa fd [x] sp) (hbind : ∀ (s : Shared) (u : Value), BindsTo s fd ⟨[u], []⟩ [(x, u)])
    (hsp : ∀ H : Hp, Only H → SqL K H a (ns.map V.int) → sp [.ref a] H (fun v _ => v = .bl true) E0) :
    codeAny (model P w) callerA (.call (.ref fa) ⟨[.ref a], []⟩) (fun r s' => r = .ok (.ret (.bool true)) ∧ OldK s₁.heap s'.heap ∧ s'.os = s₁.os ∧ AllBare s'.gens) s₁ := by
  have rel := vals_ints hi
  have len := hi.length
  obtain ⟨H, hH⟩ : ∃ H, H = scriptH K a vs ns := ⟨_, rfl⟩
  have at_ : ∀ {b u}, H b = some u → b = a ∧ K.lookup a = none ∧ u = .frz { cls := .type "list", data := .seq vs.toArray } (.lst (ns.map V.int)) := fun {b u} h => scriptH_a (by rw [← hH]; exact h)
  have untracked : ∀ {b : Addr}, (∀ o, s₁.heap.get? b = some o → ∀ its n, o.data ≠ .seq its n) → (∃ o, s₁.heap.get? b = some o) → H b = none := by
    intro b h1 ⟨o, h2⟩
    cases q : H b with
    | none => rfl
    | some u =>
      obtain ⟨rfl, _, _⟩ := at_ q
      rw [ha] at h2
      cases h2
      exact absurd rfl (h1 _ ha _ _)
  have ns_ : ∀ {b : Addr} {m : Str → Option Value}, s₁.heap.Ns b m → (hidT s₁.heap H).Ns b m := by
    rintro b m ⟨o, es, ep, e, d, rr⟩
    refine ⟨o, es, ep, hidT_get e (untracked (fun o' e' its n z => ?_) ⟨o, e⟩), d, rr⟩
    rw [e] at e'
    cases e'
    rw [d] at z
    cases z
  have onlyS : Only H := fun b => by
    cases q : H b with
    | none => exact .inl rfl
    | some u => exact .inr ⟨_, _, congrArg some (at_ q).2.2⟩
  have seq : SqL K H a (ns.map V.int) := by
    cases q : K.lookup a with
    | some o =>
      have e := KX a o q
      rw [ha] at e
      cases e
      exact .inr ⟨_, vs.toArray, _, q, rfl, rfl, rfl, by rw [List.size_toArray, len]; exact hl, by simpa using rel⟩
    | none =>
      refine .inl (.inr ⟨{ cls := .type "list", data := .seq vs.toArray }, ?_⟩)
      rw [hH]
      exact if_pos ⟨rfl, q⟩
  have hok : HOk P w H s₁.heap := fun b u z => by
    obtain ⟨rfl, _, rfl⟩ := at_ z
    exact ⟨ha, by rw [List.length_map]; exact hl, vs, _, rel, ha⟩
  have kin : K.In (hidT s₁.heap H) := fun b o e => hidT_get (KX b o e) (by
    cases q : H b with
    | none => rfl
    | some u =>
      obtain ⟨rfl, n, _⟩ := at_ q
      rw [n] at e
      cases e)
  have md : Mod K mg (hidT s₁.heap H) := by
    obtain ⟨mc, h1, h2⟩ := hlim
    exact ⟨kin, ns_ hns, ⟨mb, ns_ hb, hbb⟩, ⟨mc, ns_ h1, h2⟩⟩
  have noFrame : ∀ b ∈ frs ([] : List PySem.Env), False := fun b z => absurd (show b ∈ ([] : List Addr) from z) (by simp)
  have e0 : Env0 P w K mg (hidT s₁.heap H) callerA [] s₁ H := { frames := rfl, mod := md, bs := fun b o e => of_hidT e, bsz := Nat.le_of_eq (hidT_size _ _), funs := trivial, frf := fun b z => (noFrame b z).elim, hok := hok, bare := .of_eq hg }
  have run := (F _ kin (ns_ hns)).run callerA [] s₁ H ⟨[.ref a], []⟩ [.ref a] [.ref a] _ _ rfl hr e0 (hbind s₁ (.ref a)) (.cons rfl .nil) (hsp H onlyS seq)
  refine codeAny_mono run fun r s' h => ?_
  cases r with
  | error e =>
    obtain ⟨_, _, _, _, _, _, _, _, _, _, _, _, z⟩ := (show L2.CX P w [] H s₁ E0 e s' from h)
    exact z.elim
  | ok fl =>
    cases fl with
    | next => exact (show False from h).elim
    | brk => exact (show False from h).elim
    | cont => exact (show False from h).elim
    | ret u =>
      obtain ⟨v, H', os, bare, un, hok', rv, q⟩ := h
      have q : v = .bl true := q
      subst q
      have rv : u = Value.bool true := rv
      refine ⟨by rw [rv], OldK.of_keep fun b o e => ?_, os, bare⟩
      cases q : H b with
      | none => exact un.keep b o e q (fun z => noFrame b z) (by simp)
      | some u =>
        obtain ⟨rfl, _, rfl⟩ := at_ q
        have z := (hok' _ _ (un.frzs _ _ _ q)).1
        rw [ha] at e
        cases e
        exact z
end
/-- the goal that k_head leaves, from the promise of the law's def -/
theorem walkG {l : PySem.W.OpenLaw} {n k : Nat} {q : Program} {loose : List Str} {XP : (Str → Option Value) → Heap → Prop} {YP : World → Heap → Prop} {d : DefRec} {K : Params → PySem.W.Frag} {sp : World → Sp} {x : Str} (hn : l.most = some n) (hn2 : n ≤ sizeLine)
    (hdf : d.params.defaults = []) (hr : Room k callerA) (hY : ∀ (w : World) (h : Heap), YP w h → (K w.params).In h)
    (F : ∀ (w : World) (mg : Str → Option Value) (fa : Addr) (h : Heap), (K w.params).In h → h.Ns mainGlobals mg → mg d.name = some (.ref fa) →
      ∃ fd : FuncData, (∀ (s : Shared) (u : Value), BindsTo s fd ⟨[u], []⟩ [(x, u)]) ∧ ∀ base : Heap, (K w.params).In base → base.Ns mainGlobals mg → FnG l.prog w (K w.params) mg base k fa fd [x] (sp w))
    (hsp : ∀ (w : World) (H : Hp) (a : Addr) (ns : List Int), ns.length ≤ n → Only H → SqL (K w.params) H a (ns.map V.int) → sp w [.ref a] H (fun v _ => v = .bl true) E0) :
    PySem.W.WalkO q loose XP YP l.row.toRowW d [] (fun f vs => PySem.call f vs) := by
  refine Att.attach_call hn hdf ?_
  intro w s₀ s₁ mg mb fa o pm cd doc a vs ns G Y ho hd hcd hmg hobj hints hlen hg
  obtain ⟨fd, hb, hF⟩ := F w mg fa _ (hY w _ Y) G.T.g hmg
  exact law_G (hY w _ Y) G.T.g G.T.b G.T.builtins G.T.nolimit hg hobj hints (Nat.le_trans hlen hn2) hr hF hb fun H hO hS => hsp w H a ns hlen hO hS
end VH

set_option Elab.async false
set_option maxRecDepth 100000
set_option linter.all false
set_option maxHeartbeats 2000000
namespace VH
open PySem L2
open PyProof.Rows (envOfC)

section
variable {R : Res} {K : PySem.W.Frag} {E : XK}
/-! ### reversed(range(n)) -/
theorem rngD_len {lo : Int} {n : Nat} : (rngD lo n).length = n := by simp [rngD]
theorem dw_rev {F1 : Hp} {n : Nat} : DW R K F1 (Itc (0 + ((n : Nat) : Int) - 1) (-1) n) (rngD 0 n).reverse where
  go := fun i F H e o hi => by
    have h : i < n := by simpa [rngD] using hi
    exact h
  stop := fun F H e o => by
    show n ≤ (rngD 0 n).reverse.length
    simp [rngD]
  yld := fun i F H x H' d e o hd y => by
    obtain ⟨rfl, rfl⟩ := y
    have hi : i < n := by
      have := (List.getElem?_eq_some_iff.mp hd).1
      simpa [rngD] using this
    rw [List.getElem?_reverse (by simpa [rngD] using hi)] at hd
    obtain ⟨_, rfl⟩ := rngD_get hd
    refine ⟨F, .refl, o, ?_⟩
    rw [rngD_len, show (0 : Int) + ((n : Nat) : Int) - 1 + (i : Nat) * -1 = 0 + ((n - 1 - i : Nat) : Int) by omega]
    exact .int _
def wIRev (we : WE) : WI := fun env Xn Q => we env Xn fun r => gInt1 r fun n => 0 ≤ n ∧ n < 2 ^ 62 ∧ Q (rngD 0 n.toNat).reverse
theorem ivw_rev {te : TE} {we : WE} (h : EvW R K E te we) : IvW R K E (iRevR (tRg1 te)) (wIRev we) := by
  intro F0 H0 env σ F H Xn Rq Q' t ws q k
  refine h F0 H0 env σ F H _ _ _ t ws q fun v r F1 H1 s o rr q1 => ?_
  obtain ⟨n, rfl, q1⟩ := gInt1_ex q1
  cases rr
  refine ⟨n, rfl, by omega, by omega, by omega, q1.2.1, ?_⟩
  rw [Int.sub_zero]
  exact k _ _ F1 H1 s o dw_rev q1.2.2
/-! ### enumerate(list), zip(list, list) -/
def enumD : Nat → List D → List D
  | _, [] => []
  | i, d :: ds => .tup [.int (i : Nat), d] :: enumD (i + 1) ds
theorem enumD_len : ∀ {i : Nat} {ds : List D}, (enumD i ds).length = ds.length
  | _, [] => rfl
  | i, _ :: ds => by simp [enumD, enumD_len (i := i + 1) (ds := ds)]
theorem enumD_get : ∀ {k i : Nat} {ds : List D} {d : D}, (enumD k ds)[i]? = some d → ∃ e, ds[i]? = some e ∧ d = .tup [.int ((k + i : Nat) : Int), e]
  | _, _, [], _, h => by cases h
  | k, 0, e :: ds, d, h => ⟨e, rfl, by have := Option.some.inj h; rw [← this]; rfl⟩
  | k, i + 1, e :: ds, d, h => by
    obtain ⟨e', h1, h2⟩ := enumD_get (k := k + 1) (i := i) (ds := ds) (d := d) (by simpa [enumD] using h)
    exact ⟨e', by simpa using h1, by rw [h2, show k + 1 + i = k + (i + 1) by omega]⟩
theorem pair_new {F H : Hp} {T : Addr} {x y : V} {d e : D} (o : Ok R F H) (hT : H T = none) (r1 : Rv K F x d) (r2 : Rv K F y e) :
    ∃ F', Stp R F H F' (upd H T (.tup [x, y])) ∧ Ok R F' (upd H T (.tup [x, y])) ∧ Rv K F' (.ref T) (.tup [d, e]) :=
  ⟨upd F T (.tup [x, y]), o.newS hT, o.newF hT, .tup (SqT.of upd_same) (.cons (r1.mono (Same.updF (o.notF hT))) (.cons (r2.mono (Same.updF (o.notF hT))) .nil))⟩
theorem dw_enum {F1 : Hp} {a : Addr} {xs : List V} {ds : List D} (h : F1 a = some (.lst xs)) (r : RvA K F1 xs ds) : DW R K F1 (Ite K a) (enumD 0 ds) where
  go := fun i F H e o hi => ⟨xs, xs[i]'(by rw [r.length]; rw [enumD_len] at hi; exact hi), SqL.of (o.ex _ _ (e _ _ h)), by simp⟩
  stop := fun F H e o => ⟨xs, SqL.of (o.ex _ _ (e _ _ h)), by rw [r.length, enumD_len]; exact Nat.le_refl _⟩
  yld := fun i F H x H' d e o hd y => by
    obtain ⟨T, v, rfl, hT, rfl, y⟩ := y
    obtain ⟨w, h1, rfl⟩ := enumD_get hd
    obtain ⟨v', hv, rv⟩ := r.get h1
    have := y xs (SqL.of (o.ex _ _ (e _ _ h)))
    rw [hv] at this
    cases this
    rw [Nat.zero_add]
    exact pair_new o hT (.int _) (rv.mono e)
def gIEnum : Rs → (List D → Prop) → Prop
  | .sh (.lst ds), Q => Q (enumD 0 ds)
  | .nw ds, Q => Q (enumD 0 ds)
  | _, _ => False
def wIEnum (we : WE) : WI := fun env Xn Q => we env Xn fun r => gIEnum r Q
theorem ivw_enum {te : TE} {we : WE} (h : EvW R K E te we) : IvW R K E (iEnum K (tCons te tNil)) (wIEnum we) := by
  intro F0 H0 env σ F H Xn Rq Q' t ws q k
  refine h F0 H0 env σ F H _ _ _ t ws q fun v r F1 H1 s o rr q1 => ?_
  unfold gIEnum at q1
  split at q1
  · cases rr with
    | lst hF r => exact ⟨_, _, rfl, SqL.of (o.ex _ _ hF), k _ _ F1 H1 s o (dw_enum hF r) q1⟩
  · obtain ⟨p, xs, rfl, h2, h3, h4, h5, h6⟩ := rr
    exact ⟨p, xs, rfl, SqL.of h3, k _ _ (upd F1 p (.lst xs)) H1 (s.frz h2 h4) (o.freeze h3 h4 h5) (dw_enum upd_same (h6.mono (Same.updF h4))) q1⟩
  · exact q1.elim
def zipD (as bs : List D) : List D := List.zipWith (fun a b => .tup [a, b]) as bs
theorem dw_zip {F1 : Hp} {a b : Addr} {xs ys : List V} {ds es : List D} (h : F1 a = some (.lst xs)) (r : RvA K F1 xs ds) (h' : F1 b = some (.lst ys)) (r' : RvA K F1 ys es) : DW R K F1 (Itz K a b) (zipD ds es) where
  go := fun i F H e o hi => by
    have hi : i < min ds.length es.length := by simpa [zipD] using hi
    exact ⟨xs, ys, xs[i]'(by rw [r.length]; omega), ys[i]'(by rw [r'.length]; omega), SqL.of (o.ex _ _ (e _ _ h)), SqL.of (o.ex _ _ (e _ _ h')), by simp, by simp⟩
  stop := fun F H e o => by
    refine ⟨xs, ys, SqL.of (o.ex _ _ (e _ _ h)), SqL.of (o.ex _ _ (e _ _ h')), ?_⟩
    simp only [zipD, List.length_zipWith, r.length, r'.length]
    omega
  yld := fun i F H x H' d e o hd y => by
    obtain ⟨T, v, w, rfl, hT, rfl, y1, y2⟩ := y
    unfold zipD at hd
    rw [List.getElem?_zipWith] at hd
    cases e1 : ds[i]? with
    | none => rw [e1] at hd; cases hd
    | some d1 =>
      cases e2 : es[i]? with
      | none => rw [e1, e2] at hd; cases hd
      | some d2 =>
        rw [e1, e2] at hd
        cases hd
        obtain ⟨v', hv, rv⟩ := r.get e1
        obtain ⟨w', hw, rw'⟩ := r'.get e2
        have q1 := y1 xs (SqL.of (o.ex _ _ (e _ _ h)))
        have q2 := y2 ys (SqL.of (o.ex _ _ (e _ _ h')))
        rw [hv] at q1
        rw [hw] at q2
        cases q1
        cases q2
        exact pair_new o hT (rv.mono e) (rw'.mono e)
def gIZip : List D → (List D → Prop) → Prop
  | [.lst as, .lst bs], Q => Q (zipD as bs)
  | _, _ => False
def wIZip (wa : WA) : WI := fun env Xn Q => wa env Xn fun ds => gIZip ds Q
theorem ivw_zip {ta : TA} {wa : WA} (h : EaW R K E ta wa) : IvW R K E (iZip K ta) (wIZip wa) := by
  intro F0 H0 env σ F H Xn Rq Q' t ws q k
  refine h F0 H0 env σ F H _ _ _ t ws q fun vs ds F1 H1 s o rr q1 => ?_
  unfold gIZip at q1
  split at q1
  · cases rr with
    | cons r1 rr =>
      cases rr with
      | cons r2 rr =>
        cases rr
        cases r1 with
        | lst hF r =>
          cases r2 with
          | lst hF' r' => exact ⟨_, _, _, _, rfl, SqL.of (o.ex _ _ hF), SqL.of (o.ex _ _ hF'), k _ _ F1 H1 s o (dw_zip hF r hF' r') q1⟩
  · exact q1.elim
/-! ### sorted of ints -/
def gSorted : D → (Rs → Prop) → Prop
  | .lst ds, Q => gOpt (D.ints ds) fun ns => ∀ ns' : List Int, ns'.Perm ns → ns'.Pairwise (· ≤ ·) → Q (.nw (ns'.map .int))
  | _, _ => False
theorem unw_sorted : UnW R K (fun x => rSortedI K [x]) gSorted := by
  intro F H x a Q Q' o ha h k
  cases a <;> first | exact h.elim | skip
  obtain ⟨ns, h1, h2⟩ := gOpt_ex h
  obtain ⟨p, xs, rfl, hx, _, r⟩ := top_lst o ha
  have e := ints_of r h1
  subst e
  exact ⟨p, ns, rfl, SqL.of hx, fun ns' q hp hs hq => newL o k (rva_map ns') (h2 ns' hp hs) hq⟩
end
section
variable {X : Cx} {R : Res} {E : XK} {a b e : Expr} {ta tb te : TE} {wa wb we : WE} {p pos tpos : Pos} {elts : List Expr} {kk : Nat}
theorem i_rev (hm : X.mg "reversed" = none) (hm2 : X.mg "range" = none) (ha : VE X R E a ta wa) (hg : Gl X "reversed" := by rfl) (hg2 : Gl X "range" := by rfl) (na : starEach [a] X.env = (false, eval a X.env) :: starEach [] X.env := by rfl) {p2 pos2 : Pos} {tg : Expr}
    (hs : starEach [.Call (.Name "range" p2) [a] [] pos2] X.env = (false, eval (.Call (.Name "range" p2) [a] [] pos2) X.env) :: starEach [] X.env := by rfl) : VI X R E tg (.Call (.Name "reversed" p) [.Call (.Name "range" p2) [a] [] pos2] [] pos) (iRevR (tRg1 ta)) (wIRev wa) :=
  ⟨pi_revR hg hm (prg_1 hg2 hm2 ha.p na) hs, ivw_rev ha.w⟩
theorem i_enum (hm : X.mg "enumerate" = none) (ha : VE X R E a ta wa) (hg : Gl X "enumerate" := by rfl) (h1 : starEach [a] X.env = (false, eval a X.env) :: starEach [] X.env := by rfl) (hs : starEach [a] X.env = [(false, eval a X.env)] := by rfl) :
    VI X R E (.Tuple elts kk tpos) (.Call (.Name "enumerate" p) [a] [] pos) (iEnum X.K (tCons ta tNil)) (wIEnum wa) := ⟨pi_enum hg hm (pa_cons ha.p pa_nil h1) hs, ivw_enum ha.w⟩
theorem i_zip {tA : TA} {wA : WA} (hm : X.mg "zip" = none) (ha : VA X R E [a, b] tA wA) (hg : Gl X "zip" := by rfl) (hs : starEach [a, b] X.env = (false, eval a X.env) :: starEach [b] X.env := by rfl) (hpl : (backTo pos (starEach [b] X.env)).any (·.1) = false := by rfl) :
    VI X R E (.Tuple elts kk tpos) (.Call (.Name "zip" p) [a, b] [] pos) (iZip X.K tA) (wIZip wA) := ⟨pi_zip hg hm ha.p hs hpl, ivw_zip ha.w⟩
end

/-! ### the well: the law's own source of numbers, a list that draws change -/
def WellJ (p q : Addr) (H : Hp) : Prop := p ≠ q ∧ ∃ (a b c : Int) (cs : List Int), H p = some (.lst [.ref q, .int a, .int b, .int c]) ∧ H q = some (.lst (cs.map V.int)) ∧ cs ≠ []
def wellRes (p q : Addr) : Res where
  J := WellJ p q
  A := fun b => b = p ∨ b = q
  loc := fun H H' k ⟨n, a, b, c, cs, h1, h2, h3⟩ => ⟨n, a, b, c, cs, by rw [k p (.inl rfl)]; exact h1, by rw [k q (.inr rfl)]; exact h2, h3⟩
  trk := fun H b ⟨n, a, b', c, cs, h1, h2, h3⟩ z => by
    rcases z with rfl | rfl
    · rw [h1]; simp
    · rw [h2]; simp
/-- the well's objects alone have changed -/
theorem well_step {p q : Addr} {F H H' : Hp} (o : Ok (wellRes p q) F H) (j : WellJ p q H') (k : ∀ b, b ≠ p → b ≠ q → H' b = H b) : Ok (wellRes p q) F H' ∧ Stp (wellRes p q) F H F H' := by
  have out : ∀ b, ¬ (wellRes p q).A b → H' b = H b := fun b n => k b (fun z => n (.inl z)) fun z => n (.inr z)
  refine ⟨⟨fun b u e => ?_, j, o.dis⟩, ⟨.refl _, fun b u e n => by rw [out b n]; exact e, fun _ _ n => n, fun b e => ?_⟩⟩
  · rw [out b (o.frz e)]; exact o.ex b u e
  · by_cases z : (wellRes p q).A b
    · exact (wellRes p q).trk H' b j z
    · rw [out b z]; exact e
/-- a draw below n: any number from 0 to n - 1 -/
def wfDraw : WF := fun R ds _ Q => ∃ p q n, R = wellRes p q ∧ ds = [.ref p, .int n] ∧ 0 < n ∧ n < 2 ^ 60 ∧ ∀ m : Int, 0 ≤ m → m < n → Q (.sh (.int m))
/-- the making of the well -/
def spWell (K : PySem.W.Frag) : Sp := fun vs H Q _ => ∃ (a : Addr) (ns : List Int), vs = [.ref a] ∧ SqL K H a (ns.map V.int) ∧ ns.length ≤ 1000 ∧
  ∀ p q (cs : List Int) H', H p = none → H q = none → p ≠ q → Same H H' → H' p = some (.lst [.ref q, .int 0, .int 0, .int 1]) → H' q = some (.lst (cs.map V.int)) → cs ≠ [] → Q (.ref p) H'
section
variable {K : PySem.W.Frag} {E : XK}
theorem Stp.plain {R R' : Res} {F H F' H' : Hp} (s : Stp R F H F' H') (h : ∀ a, R.A a → H a = none) : Stp R' F H F' H' :=
  ⟨s.ex, fun p o e _ => s.keep p o e (fun z => by rw [h p z] at e; cases e), s.own, s.dom⟩
theorem Ok.plain {R : Res} {F H : Hp} (o : Ok R F H) : Ok Res.no F H := ⟨o.ex, trivial, fun _ z => z.elim⟩
theorem SlotOk.plain {R : Res} {H0 F H : Hp} {x : Option (Option V)} {s : Slot} (h : SlotOk R K H0 F H x s) : SlotOk Res.no K H0 F H x s := by
  cases s with
  | un => trivial
  | sh d => exact h
  | ow ds => obtain ⟨p, xs, h1, h2, h3, h4, h5, h6⟩ := h; exact ⟨p, xs, h1, h2, h3, fun z => z.elim, h5, h6⟩
  | od gs => obtain ⟨p, xs, h1, h2, h3, h4, h5, h6, h7⟩ := h; exact ⟨p, xs, h1, h2, h3, fun z => z.elim, h5, h6, h7⟩
  | oi C a gs => obtain ⟨p, dx, xs, h1, h2, h3, h4, h5, h6, h7⟩ := h; exact ⟨p, dx, xs, h1, h2, h3, fun z => z.elim, h5, h6, h7⟩
theorem Rr.plain {R : Res} {H F' H' : Hp} {v : V} {r : Rs} (h : Rr R K H F' H' v r) : Rr Res.no K H F' H' v r := by
  cases r with
  | sh d => exact h
  | nw ds => obtain ⟨p, xs, h1, h2, h3, h4, h5, h6⟩ := h; exact ⟨p, xs, h1, h2, h3, h4, fun z => z.elim, h6⟩
  | br ds => obtain ⟨p, xs, h1, h3, h5, h6⟩ := h; exact ⟨p, xs, h1, h3, fun z => z.elim, h6⟩
  | nd gs => obtain ⟨p, fs, h1, h2, h3, h4, h5, h6, h7⟩ := h; exact ⟨p, fs, h1, h2, h3, h4, fun z => z.elim, h6, h7⟩
  | bd gs => obtain ⟨p, fs, h1, h3, h5, h6, h7⟩ := h; exact ⟨p, fs, h1, h3, fun z => z.elim, h6, h7⟩
def wWell (i : Nat) (wa : WA) (w : Addr → Addr → WS) : WS := fun env D => wa env D.xn fun ds => (∃ ns : List Int, ds = [.fls ns] ∧ ns.length ≤ 1000) ∧ ∀ p q, w p q (put env i (.sh (.ref p))) D
theorem esw_well {i : Nat} {ta : TA} {wa : WA} {t : TS} {w : Addr → Addr → WS} (ha : EaW Res.no K E ta wa) (hr : ∀ p q, EsW (wellRes p q) K E t (w p q)) : EsW Res.no K E (tSeq (tAsg (tCall (spWell K) [] E ta) (gName i)) t) (wWell i wa w) := by
  intro F0 H0 env σ F H D D' t0 ws e q
  refine ha F0 H0 env σ F H _ _ _ t0 ws q fun vs ds F1 H1 s1 o1 r q1 => ?_
  obtain ⟨⟨ns, rfl, hn⟩, q1⟩ := q1
  cases r with
  | cons r1 r =>
    cases r
    cases r1 with
    | fls hF =>
      refine ⟨_, ns, rfl, o1.ex.seq hF, hn, fun p q cs H2 hp hq ne sm h1 h2 h3 => ?_⟩
      have t1 := t0.step s1 o1
      have j : (wellRes p q).J H2 := ⟨ne, 0, 0, 1, cs, h1, h2, h3⟩
      have aF : ∀ a, (wellRes p q).A a → H1 a = none := fun a z => by rcases z with rfl | rfl <;> assumption
      have a0 : ∀ a, (wellRes p q).A a → H0 a = none := fun a z => t1.stp.fresh (aF a z)
      have o2 : Ok (wellRes p q) F1 H2 := ⟨o1.ex.trans sm, j, fun a z => o1.notF (aF a z)⟩
      have s2 : Stp (wellRes p q) F0 H0 F1 H2 := ⟨t1.stp.ex, fun b o h _ => sm b o (t1.stp.keep b o h fun z => z), t1.stp.own, fun b h => by
        cases z : H1 b with
        | none => exact absurd z (t1.stp.dom b h)
        | some o => rw [sm b o z]; simp⟩
      have t2 : Sta (wellRes p q) K F0 H0 env σ F1 H2 := by
        refine ⟨o2, s2, t1.len, fun j => ?_, t1.inj⟩
        have z := t1.sl j
        have nA : ∀ b o, H1 b = some o → ¬ (wellRes p q).A b := fun b o h a => by rw [aF b a] at h; cases h
        cases hs : get env j with
        | un => trivial
        | sh d => rw [hs] at z; exact z
        | ow ds => rw [hs] at z; obtain ⟨b, xs, z1, z2, z3, z4, z5, z6⟩ := z; exact ⟨b, xs, z1, z2, z3, nA _ _ z5, sm _ _ z5, z6⟩
        | od gs => rw [hs] at z; obtain ⟨b, xs, z1, z2, z3, z4, z5, z6⟩ := z; exact ⟨b, xs, z1, z2, z3, nA _ _ z5, sm _ _ z5, z6⟩
        | oi C a gs => rw [hs] at z; obtain ⟨b, dx, xs, z1, z2, z3, z4, z5, z6⟩ := z; exact ⟨b, dx, xs, z1, z2, z3, nA _ _ z5, sm _ _ z5, z6⟩
      have back : ∀ {env σ F H}, Sta (wellRes p q) K F0 H0 env σ F H → Sta Res.no K F0 H0 env σ F H := fun t => ⟨t.ok.plain, t.stp.plain a0, t.len, fun i => (t.sl i).plain, t.inj⟩
      refine hr p q F0 H0 _ _ F1 H2 D D' (t2.setS (.ref p)) (fun x cls d F' H' s o h q => ws x cls d F' H' (s.plain a0) o.plain h q)
        ⟨fun env σ F H t q => e.nx env σ F H (back t) q, fun env σ F H t q => e.bk env σ F H (back t) q, fun env σ F H t q => e.ct env σ F H (back t) q, fun v r F H s o rr q => e.rt v r F H (s.plain a0) o.plain rr.plain q⟩ (q1 p q)
end
section
variable {X : Cx} {E : XK} {k : Nat} {f : Addr} {fd : FuncData} {ps : List Str} {x y : Str} {e : Expr} {es : List Expr} {p pos pos' spos : Pos} {tA : TA} {wA : WA} {rest : List Stmt} {t : TS} {w : Addr → Addr → WS}
theorem b_well (i : Nat) (hN : X.N.Nodup) (F : FnG X.prog X.w X.K X.mg X.base k f fd ps (spWell X.K)) (G : Glob X.K X.mg x f fd ps) (hg : X.A.guards = some []) (hr : Room k X.A) (hx : Passes (L2.CX X.prog X.w) X E) (ha : VA X Res.no E (e :: es) tA wA) (hrest : ∀ p q, VB X (wellRes p q) E rest t (w p q))
    (gl : Gl X x := by rfl) (hdb : (x == ("__debug__" : Str)) = false := by decide) (he : starEach (e :: es) X.env = (false, eval e X.env) :: starEach es X.env := by rfl) (hpl : (backTo pos (starEach es X.env)).any (·.1) = false := by rfl)
    (hi : X.N[i]? = some y := by rfl) (hl : Loc X.env.scope y := by first | exact Or.inl rfl | exact Or.inr rfl) (hs : swapsWith (.Call (.Name x p) (e :: es) [] pos) (some (.Name y pos')) spos.line X.env = pure false := by rfl)
    (hf : X.fn y = true ∨ X.env.scope.names.lookup y = some .local := by first | exact .inl rfl | exact .inr rfl) :
    VB X Res.no E (.Assign [.Name y pos'] (.Call (.Name x p) (e :: es) [] pos) spos :: rest) (tSeq (tAsg (tCall (spWell X.K) [] E tA) (gName i)) t) (wWell i wA w) :=
  ⟨pss_cons (ps_set hN hi hl (pe_callG F G hg hr gl hx ha.p hdb he hpl) hs hf) (hrest 0 0).p, esw_well ha.w fun p q => (hrest p q).w⟩
end
end VH
namespace VH
open PySem L2
theorem v_gintE {X : Cx} {R : Res} {E : XK} {x : Str} {i : Int} {pos : Pos} (h : ∃ t, X.mg x = some (.int i t)) (hg : Gl X x := by rfl) (hd : (x == ("__debug__" : Str)) = false := by decide) : VE X R E (.Name x pos) (tC (.int i)) (wC (.int i)) := by
  obtain ⟨t, h⟩ := h
  exact v_gint h hg hd
end VH

set_option Elab.async false
set_option maxRecDepth 100000
set_option linter.all false
set_option maxHeartbeats 2000000
namespace VH
open PySem L2
theorem gOpt_in {α : Type} {o : Option α} {a : α} {Q : α → Prop} (h : o = some a) (q : Q a) : gOpt o Q := by
  subst h; exact q
theorem ix_in {α : Type} {ds : List α} {k : Nat} {d : α} {i : Int} {Q : α → Prop} (e : i = (k : Int)) (h : ds[k]? = some d) (q : Q d) : gOpt (ixD ds i) Q := by
  subst e
  exact gOpt_in (by rw [ixD_nat]; exact h) q
theorem ite_in {c : Prop} [Decidable c] {A B : Prop} (a : c → A) (b : ¬ c → B) : if c then A else B := by
  by_cases h : c
  · rw [if_pos h]; exact a h
  · rw [if_neg h]; exact b h
/-- a test whose truth is known to be p -/
theorem tst_in {c : Bool} {p : Prop} {A B : Prop} (e : c = true ↔ p) (a : p → A) (b : ¬ p → B) : if c = true then A else B :=
  ite_in (fun h => a (e.mp h)) fun h => b fun z => h (e.mpr z)
theorem dec_in {p : Prop} {f : ¬ p → Prop} {g : p → Prop} {i : Decidable p} (a : ∀ h, g h) (b : ∀ h, f h) : Decidable.rec (motive := fun _ => Prop) f g i := by
  cases i
  · exact b _
  · exact a _
theorem dec_yes {p : Prop} {f : ¬ p → Prop} {g : p → Prop} {i : Decidable p} (h : p) (a : g h) : Decidable.rec (motive := fun _ => Prop) f g i := by
  cases i
  · contradiction
  · exact a
theorem dec_no {p : Prop} {f : ¬ p → Prop} {g : p → Prop} {i : Decidable p} (h : ¬ p) (b : f h) : Decidable.rec (motive := fun _ => Prop) f g i := by
  cases i
  · exact b
  · contradiction
theorem dec_t {q : Prop} [Decidable q] (h : q) : decide q = true := decide_eq_true h
theorem dec_f {q : Prop} [Decidable q] (h : ¬ q) : ¬ decide q = true := fun z => h (of_decide_eq_true z)
theorem dec_nt {q : Prop} [Decidable q] (h : ¬ q) : (!decide q) = true := by simp [h]
theorem dec_nf {q : Prop} [Decidable q] (h : q) : ¬ (!decide q) = true := by simp [h]
theorem line_le {n : Nat} (h : n ≤ 1000000) : n ≤ sizeLine := Nat.le_trans h (by decide)
theorem line_lt {n : Nat} (h : n < 1000000) : n < sizeLine := Nat.lt_of_lt_of_le h (by decide)
theorem forW_ind {wg : D → Env → (Env → Prop) → Prop} {wb : WS} {D : WEnds} (Inv : List VH.D → Env → Prop) (nil : ∀ env, Inv [] env → D.nx env)
    (cons : ∀ d ds env, Inv (d :: ds) env → (∀ e, Inv ds e → forW wg wb ds e D) → wg d env fun env' => wb env' { nx := fun e => forW wg wb ds e D, rt := D.rt, bk := D.nx, ct := fun e => forW wg wb ds e D, xn := D.xn }) :
    ∀ {ds : List VH.D} {env : Env}, Inv ds env → forW wg wb ds env D
  | [], env, h => nil env h
  | d :: ds, env, h => cons d ds env h fun e he => forW_ind Inv nil cons he
theorem lcW_ind {wg : D → Env → (Env → Prop) → Prop} {wt : WT} {we : WE} {env : Env} {Q : List D → Prop} (Inv : List D → List D → Prop) (nil : ∀ acc, Inv [] acc → Q acc)
    (cons : ∀ d ds acc, Inv (d :: ds) acc → (∀ a, Inv ds a → lcW wg wt we env ds a Q) → wg d env fun env' => wt env' NoX fun b => if b = true then we env' NoX fun r => fzW r fun y => lcW wg wt we env ds (acc ++ [y]) Q else lcW wg wt we env ds acc Q) :
    ∀ {ds acc : List D}, Inv ds acc → lcW wg wt we env ds acc Q
  | [], acc, h => nil acc h
  | d :: ds, acc, h => cons d ds acc h fun e he => lcW_ind Inv nil cons he
/-! ranges, unrolled -/
def rgs : Nat → Nat → List D
  | _, 0 => []
  | j, m + 1 => .int (j : Nat) :: rgs (j + 1) m
theorem rgs_map : ∀ (m j : Nat), (List.range' j m).map (fun i => D.int ((i : Nat) : Int)) = rgs j m
  | 0, _ => rfl
  | m + 1, j => by rw [List.range'_succ, List.map_cons, rgs_map m (j + 1)]; rfl
theorem rngD_rgs {n : Nat} : rngD 0 n = rgs 0 n := by
  rw [← rgs_map, rngD, List.range_eq_range']
  simp
theorem rgs_snoc : ∀ (m j : Nat), rgs j (m + 1) = rgs j m ++ [.int ((j + m : Nat) : Int)]
  | 0, j => rfl
  | m + 1, j => by
    show D.int (j : Nat) :: rgs (j + 1) (m + 1) = D.int (j : Nat) :: (rgs (j + 1) m ++ _)
    rw [rgs_snoc m (j + 1), show j + 1 + m = j + (m + 1) by omega]
theorem rev_succ {m : Nat} : (rgs 0 (m + 1)).reverse = .int (m : Nat) :: (rgs 0 m).reverse := by
  rw [rgs_snoc, List.reverse_append, Nat.zero_add]
  rfl
theorem ixJ_nat {n j : Nat} (h : j < n) : ixJ n (j : Int) = some j := by
  unfold ixJ
  rw [if_pos (by omega), if_pos (by omega)]
  rfl
theorem eqQ {Q : Rs → Prop} {a b : Rs} (q : Q a) (e : a = b) : Q b := e ▸ q
/-! a joint behind a statement: what holds there, said once -/
def wCut (a b : WS) : WS := fun env D => ∃ Post : Env → Prop, a env { D with nx := Post } ∧ ∀ e, Post e → b e D
section
variable {R : Res} {K : PySem.W.Frag} {E : XK} {X : Cx} {st : Stmt} {rest : List Stmt} {t u : TS} {w wu : WS}
theorem esw_cut {t1 t2 : TS} {w1 w2 : WS} (h1 : EsW R K E t1 w1) (h2 : EsW R K E t2 w2) : EsW R K E (tSeq t1 t2) (wCut w1 w2) := by
  intro F0 H0 env σ F H D D' t ws e ⟨Post, q1, q2⟩
  refine h1 F0 H0 env σ F H _ { D' with nx := Post } t ws ⟨fun env2 σ2 F2 H2 t2 q => ?_, e.bk, e.ct, e.rt⟩ q1
  exact h2 F0 H0 env2 σ2 F2 H2 D D' t2 ws e (q2 env2 q)
theorem b_cut (h1 : VS X R E st t w) (h2 : VB X R E rest u wu) : VB X R E (st :: rest) (tSeq t u) (wCut w wu) := ⟨pss_cons h1.p h2.p, esw_cut h1.w h2.w⟩
end
/-! range of a number that the text says: the list is held back -/
def wIRngC (we : WE) : WI := fun env Xn Q => we env Xn fun r => gInt1 r fun j => -(2 ^ 62) ≤ j ∧ j < 2 ^ 62 ∧ ∀ ds, ds = rgs 0 j.toNat → Q ds
theorem ivw_rngC {R : Res} {K : PySem.W.Frag} {E : XK} {te : TE} {we : WE} (h : EvW R K E te we) : IvW R K E (iRng1 (tCons te tNil)) (wIRngC we) := by
  intro F0 H0 env σ F H Xn Rq Q' t ws q k
  refine h F0 H0 env σ F H _ _ _ t ws q fun v r F1 H1 s o rr q1 => ?_
  obtain ⟨j, rfl, q1⟩ := gInt1_ex q1
  cases rr
  exact ⟨_, rfl, q1.1, q1.2.1, k _ _ F1 H1 s o dw_rng (q1.2.2 _ rngD_rgs)⟩
theorem i_rngC {X : Cx} {R : Res} {E : XK} {a tg : Expr} {ta : TE} {wa : WE} {p pos : Pos} (hm : X.mg "range" = none) (ha : VE X R E a ta wa) (hg : Gl X "range" := by rfl) (h1 : starEach [a] X.env = (false, eval a X.env) :: starEach [] X.env := by rfl) (hs : starEach [a] X.env = [(false, eval a X.env)] := by rfl) : VI X R E tg (.Call (.Name "range" p) [a] [] pos) (iRng1 (tCons ta tNil)) (wIRngC wa) :=
  ⟨(i_rng1 hm ha hg h1 hs).p, ivw_rngC ha.w⟩
theorem room100 {k : Nat} {A : Around} (hr : Room k A) : A.units + 100 < cLine := by have := hr.un; omega
theorem rd_len {K : PySem.W.Frag} {H : Hp} {a : Addr} {xs : List V} (h : SqL K H a xs) : ∃ F : Hp, Same F H ∧ SqL K F a xs ∧ ∀ b ys, F b = some (.lst ys) → b = a ∧ ys = xs := by
  rcases h with h | h
  · refine ⟨fun b => if b = a then H a else none, fun b u e => ?_, ?_, fun b ys e => ?_⟩
    · by_cases c : b = a
      · simp only [c, if_pos] at e; rw [c]; exact e
      · simp only [if_neg c] at e; cases e
    · exact .inl (by unfold Rd at h ⊢; simpa using h)
    · by_cases c : b = a
      · simp only [c, if_pos] at e
        refine ⟨c, ?_⟩
        unfold Rd at h
        rw [e] at h
        simpa using h
      · simp only [if_neg c] at e; cases e
  · exact ⟨fun _ => none, fun b u e => (by cases e), .inr h, fun b ys e => by cases e⟩
def wfWell0 : WF := fun _ ds _ Q => ∃ ns : List Int, ds = [.fls ns] ∧ ns.length ≤ 1000 ∧ ∀ cs : List Int, cs.length = ns.length + 1 → Q (.nw [.lst (cs.map D.int), .int 0, .int 0, .int 1])
theorem rva_ints {K : PySem.W.Frag} {F : Hp} : ∀ {cs : List Int} {xs : List V}, RvA K F xs (cs.map D.int) → xs = cs.map V.int
  | [], _, h => by cases h; rfl
  | c :: cs, _, h => by
    cases h with
    | cons a r =>
      cases a
      rw [rva_ints r]
      rfl
theorem well_imp {P : Program} {w : World} {K : PySem.W.Frag} {mg : Str → Option Value} {base : Heap} {k : Nat} {f : Addr} {fd : FuncData} {ps : List Str} (F : FnG P w K mg base k f fd ps (spV K wfWell0)) : FnG P w K mg base k f fd ps (spWell K) := by
  refine F.imp fun vs H Q E h => ?_
  obtain ⟨a, ns, rfl, hs, hl, h⟩ := h
  obtain ⟨Fz, sm, hs', only⟩ := rd_len hs
  refine ⟨Res.no, Fz, [.fls ns], NoX, fun r => ∃ cs : List Int, cs.length = ns.length + 1 ∧ r = .nw [.lst (cs.map D.int), .int 0, .int 0, .int 1], ⟨sm, trivial, fun _ z => z.elim⟩, .cons (.fls hs') .nil, wish_no, fun v r F' H' s o rr q => ?_, ns, rfl, hl, fun cs e => ⟨cs, e, rfl⟩⟩
  obtain ⟨cs, hc, rfl⟩ := q
  obtain ⟨p, xs, rfl, h1, h2, h3, h4, h5⟩ := rr
  cases h5 with
  | cons r0 r =>
  cases r0 with
  | @lst q _ _ hF r0 =>
  cases r with
  | cons r1 r =>
  cases r with
  | cons r2 r =>
  cases r with
  | cons r3 r =>
  cases r
  cases r1
  cases r2
  cases r3
  have e0 := rva_ints r0
  subst e0
  have hq' := o.ex _ _ hF
  have hq : H q = none := by
    cases e : H q with
    | none => rfl
    | some u =>
      cases e2 : Fz q with
      | none => rw [s.own q (by rw [e]; simp) e2] at hF; cases hF
      | some u2 =>
        have e3 := s.ex q u2 e2
        rw [e3] at hF
        cases hF
        obtain ⟨rfl, e4⟩ := only q _ e2
        have e5 := congrArg List.length e4
        simp at e5
        omega
  refine h p q cs H' h1 hq (fun e => ?_) (fun b u e => s.keep b u e fun z => z.elim) h2 hq' (fun e => by subst e; simp at hc)
  subst e
  rw [h3] at hF
  cases hF
theorem sq_ok (y : Int) : CMulA (y % 2147483647) (y % 2147483647) := by
  have h1 := Int.emod_nonneg y (show (2147483647 : Int) ≠ 0 by decide)
  have h2 := Int.emod_lt_of_pos y (show (0 : Int) < 2147483647 by decide)
  exact .inl (.inl ⟨by omega, by omega⟩)
/-! THE RULE for a law: its script is a list of ints that nobody else holds -/
def spLaw (K : PySem.W.Frag) (n : Nat) : Sp := fun vs H Q _ => ∃ (a : Addr) (ns : List Int), vs = [.ref a] ∧ SqL K H a (ns.map V.int) ∧ ns.length ≤ n ∧ ∀ H', Q (.bl true) H'
theorem law_ok {P : Program} {w : World} {K : PySem.W.Frag} {mg : Str → Option Value} {base : Heap} {k n : Nat} {f : Addr} {x qual y : Str} {st : Stmt} {fd : FuncData} {N : List Str} (F : Fun K x qual st f fd) (S : FnScope N [y] (defScope st))
    (hb : ∀ (cdv : Value) (A : Around) (outer : List PySem.Env) (s : Shared) (H : Hp) (E : XK), A.guards = some [] → Room k (A.deeper (PyProof.Rows.envOfC qual (defScope st) s.heap.objs.size f cdv)) →
      Passes (L2.CX P w) (cxOf (L2.CX P w) P w K mg base N qual (defScope st) f cdv A outer s H E) E →
      ∃ ts ws, VB (cxOf (L2.CX P w) P w K mg base N qual (defScope st) f cdv A outer s H E) Res.no E (defBody st) ts ws ∧
        ∀ ns : List Int, ns.length ≤ n → ws (startE N [.fls ns]) { nx := fun _ => False, rt := fun r => r = .sh (.bl true), bk := fun _ => False, ct := fun _ => False, xn := NoX }) : FnG P w K mg base (k + 1) f fd [y] (spLaw K n) := by
  refine fnG_of F S (fun vs H Q E h => ?_) fun cdv A outer s H vs Q E hg hr h => ?_
  · obtain ⟨a, ns, rfl, _⟩ := h
    rfl
  · obtain ⟨a, ns, rfl, hs, hl, hq⟩ := h
    obtain ⟨Fz, sm, hs', _⟩ := rd_len hs
    have o : Ok Res.no Fz H := ⟨sm, trivial, fun _ z => z.elim⟩
    obtain ⟨ts, ws, hv, hw⟩ := hb cdv A outer s H E hg hr passG
    refine ⟨ts, hv.p, hv.w Fz H _ _ Fz H _ { nx := fun _ => False, rt := fun r => r = .sh (.bl true), bk := fun _ => False, ct := fun _ => False, xn := NoX } (sta_start o (.cons (.fls hs') .nil)) wish_no ⟨fun _ _ _ _ _ q => q.elim, fun _ _ _ _ _ q => q.elim, fun _ _ _ _ _ q => q.elim, fun v r F' H' s o rr q => ?_⟩ (hw ns hl)⟩
    subst q
    cases rr
    exact hq H'
end VH

set_option Elab.async false
set_option maxRecDepth 100000
set_option linter.all false
set_option maxHeartbeats 2000000
/-! dicts: frozen ones stay locked; their keys walked, listed, sorted; dict comprehensions -/
namespace VH
open PySem L2
section
variable {R : Res} {K : PySem.W.Frag} {E : XK}
/-- a new dict that from now on stays -/
def tFrzD (t : TE) : TE := fun σ H Q => t σ H fun v H1 => ∃ d kvs, v = .ref d ∧ H1 d = some (.dK kvs) ∧ ∀ od, Q v (upd H1 d (.frz od (.dK kvs)))
theorem pe_frzD {X : Cx} {e : Expr} {t : TE} (h : PE X e t) : PE X e (tFrzD t) := by
  refine ⟨fun pins s σ H Q I hw => thn (h.run pins s σ H _ I hw) fun v s1 ⟨x, H1, I1, r, d, kvs, ex, hd, q⟩ => ?_⟩
  obtain ⟨od, I2⟩ := I1.lock hd trivial
  exact ⟨x, _, I2, r, q od⟩
def gNd : Rs → (List (Key × D) → Prop) → Prop
  | .nd kvs, Q => Q kvs
  | _, _ => False
def wFrzD (we : WE) : WE := fun env Xn Q => we env Xn fun r => gNd r fun kvs => Q (.sh (.dk kvs))
theorem evw_frzD {te : TE} {we : WE} (h : EvW R K E te we) : EvW R K E (tFrzD te) (wFrzD we) := by
  intro F0 H0 env σ F H Xn Q Q' t ws q k
  refine h F0 H0 env σ F H _ _ _ t ws q fun v r F1 H1 s o rr q1 => ?_
  cases r <;> first | exact q1.elim | skip
  obtain ⟨p, fs, rfl, h2, h3, h4, h5, h6, h7⟩ := rr
  refine ⟨p, fs, rfl, h3, fun od => ?_⟩
  have o2 : Ok R F1 (upd H1 p (.frz od (.dK fs))) := o.mut h4 h5
  have s2 : Stp R F H F1 (upd H1 p (.frz od (.dK fs))) := s.mut h2
  exact k _ (.sh (.dk _)) (upd F1 p (.frz od (.dK fs))) _ (s2.frz h2 h4) (o2.freeze upd_same h4 h5) (.dk upd_same h6 (h7.mono (Same.updF h4))) q1
/-! ### keys -/
def kD : Key → D
  | .inl i => .int i
  | .inr x => .str x
theorem rv_key {F : Hp} : ∀ k : Key, Rv K F (kV k) (kD k)
  | .inl i => .int i
  | .inr x => .str x
def keysD (kvs : List (Key × D)) : List D := kvs.map fun kv => kD kv.1
theorem rva_keys {F : Hp} : ∀ {fs : List (Key × V)} {gs : List (Key × D)}, fs.map (·.1) = gs.map (·.1) → RvA K F (fs.map fun kv => kV kv.1) (keysD gs)
  | [], [], _ => .nil
  | [], _ :: _, h => by cases h
  | _ :: _, [], h => by cases h
  | f :: fs, g :: gs, h => by
    have h1 : f.1 = g.1 ∧ fs.map (·.1) = gs.map (·.1) := by simpa using h
    show RvA K F (kV f.1 :: _) (kD g.1 :: _)
    rw [h1.1]
    exact .cons (rv_key _) (rva_keys h1.2)
theorem dw_keys {F1 : Hp} {d : Addr} {od : Obj} {fs : List (Key × V)} {gs : List (Key × D)} (h : F1 d = some (.frz od (.dK fs))) (e : fs.map (·.1) = gs.map (·.1)) : DW R K F1 (Itk d od fs) (keysD gs) where
  go i F H s o hi := ⟨o.ex _ _ (s _ _ h), by have := congrArg List.length e; simp [keysD] at this hi; omega⟩
  stop F H s o := ⟨o.ex _ _ (s _ _ h), by have := congrArg List.length e; simp [keysD] at this ⊢; omega⟩
  yld i F H x H' dd s o hd y := by
    obtain ⟨rfl, k, v, hk, rfl⟩ := y
    obtain ⟨w, hw, rw'⟩ := (rva_keys (K := K) (F := F) e).get hd
    rw [List.getElem?_map, hk] at hw
    cases hw
    exact ⟨F, .refl, o, rw'⟩
def gDk : Rs → (List (Key × D) → Prop) → Prop
  | .sh (.dk kvs), Q => Q kvs
  | _, _ => False
def wIKeys (we : WE) : WI := fun env Xn Q => we env Xn fun r => gDk r fun kvs => Q (keysD kvs)
theorem ivw_keys {te : TE} {we : WE} (h : EvW R K E te we) : IvW R K E (iKeys te) (wIKeys we) := by
  intro F0 H0 env σ F H Xn Rq Q' t ws q k
  refine h F0 H0 env σ F H _ _ _ t ws q fun v r F1 H1 s o rr q1 => ?_
  unfold gDk at q1
  split at q1
  · cases rr with
    | dk hF e r => exact ⟨_, _, rfl, .inl ⟨_, o.ex _ _ hF, k _ _ F1 H1 s o (dw_keys hF e) q1⟩⟩
  · exact q1.elim
/-! ### list(d), sorted(d) -/
def gListD : D → (Rs → Prop) → Prop
  | .dk kvs, Q => Q (.nw (keysD kvs))
  | _, _ => False
theorem unw_listD : UnW R K (fun x H Q => ∃ (a : Addr) (kvs : List (Key × V)), [x] = [V.ref a] ∧ Rd H a (.dK kvs) ∧ ∀ p, H p = none → Q (.ref p) (upd H p (.lst (kvs.map fun kv => kV kv.1)))) gListD := by
  intro F H x a Q Q' o ha h k
  cases a <;> first | exact h.elim | skip
  obtain ⟨p, fs, rfl, hp, na, e, r⟩ := top_dk o ha
  exact ⟨p, fs, rfl, hp, fun l hl => newL o k (rva_keys e) h hl⟩
def keyInts : List (Key × D) → Option (List Int)
  | [] => some []
  | (.inl i, _) :: r => (keyInts r).map (i :: ·)
  | _ => none
theorem keyInts_of : ∀ {gs : List (Key × D)} {ns : List Int}, keyInts gs = some ns → gs.map (·.1) = ns.map Sum.inl
  | [], ns, h => by cases h; rfl
  | (.inl i, d) :: r, ns, h => by
    obtain ⟨ms, h1, rfl⟩ := Option.map_eq_some_iff.mp (show (keyInts r).map (i :: ·) = some ns from h)
    rw [List.map_cons, List.map_cons, keyInts_of h1]
  | (.inr _, _) :: _, _, h => by cases h
def gSortedD : D → (Rs → Prop) → Prop
  | .dk kvs, Q => gOpt (keyInts kvs) fun ks => ks.length < 64 ∧ ∀ ys : List Int, ys.Perm ks → ys.Pairwise (· ≤ ·) → Q (.nw (ys.map D.int))
  | _, _ => False
theorem unw_sortedD : UnW R K (fun x H Q => ∃ (a : Addr) (kvs : List (Key × V)) (ks : List Int), [x] = [V.ref a] ∧ Rd H a (.dK kvs) ∧ kvs.map (·.1) = ks.map Sum.inl ∧ ks.length < 64 ∧
    ∀ (ys : List Int) (p : Addr), ys.Perm ks → ys.Pairwise (· ≤ ·) → H p = none → Q (.ref p) (upd H p (.lst (ys.map V.int)))) gSortedD := by
  intro F H x a Q Q' o ha h k
  cases a <;> first | exact h.elim | skip
  obtain ⟨ks, h1, h2, h3⟩ := gOpt_ex h
  obtain ⟨p, fs, rfl, hp, na, e, r⟩ := top_dk o ha
  exact ⟨p, fs, ks, rfl, hp, e.trans (keyInts_of h1), h2, fun ys l a1 a2 hl => newL o k (rva_map ys) (h3 ys a1 a2) hl⟩
/-! ### dict comprehensions -/
def dcW (wg : D → Env → (Env → Prop) → Prop) (wt : WT) (wk we : WE) (env : Env) : List D → List (Key × D) → (List (Key × D) → Prop) → Prop
  | [], acc, Q => Q acc
  | d :: ds, acc, Q => wg d env fun env' => wt env' NoX fun b => if b = true then wk env' NoX fun rk => gOpt rk.val.key fun k => we env' NoX fun r => fzW r fun y => dcW wg wt wk we env ds (putD acc k y) Q else dcW wg wt wk we env ds acc Q
def wDc (wi : WI) (wg : D → Env → (Env → Prop) → Prop) (wt : WT) (wk we : WE) (vs : List Nat) : WE := fun env Xn Q => wi env Xn fun ds => ds.length ≤ sizeLine ∧ dcW wg wt wk we (wipeE env vs) ds [] fun ys => Q (.nd ys)
theorem putD_len {kvs : List (Key × D)} {k : Key} {d : D} : (putD kvs k d).length ≤ kvs.length + 1 := by
  unfold putD
  split
  · simp
  · simp
theorem dc_it {J : It} {n : Nat} {G : Hp → Prop} {Y : Nat → Hp → V → Hp → Prop} (w : Walk J n G Y) {g : TG} {tt : TT} {tk tv : TE} {vs : List Nat} {σ : L2.St} {H1 : Hp} {D : Addr} {Qd : Hp → Prop} (Pv : Nat → Hp → Prop) (h0 : Pv 0 (upd H1 D (.dK []))) (hG : ∀ i H, i ≤ n → Pv i H → G H)
    (hs : ∀ i x H H', i < n → Pv i H → Y i H x H' → g x (L2.wipe σ vs) H' fun σ2 H2 => L2.wipe σ2 vs = L2.wipe σ vs ∧ tt σ2 H2 fun b H3 =>
      if b = true then tk σ2 H3 fun y H4 => tv σ2 H4 fun z H5 => ∃ kvs k, y = kV k ∧ H5 D = some (.dK kvs) ∧ kvs.length < sizeLine ∧ Pv (i + 1) (upd H5 D (.dK (putK kvs k z))) else Pv (i + 1) H3) (hd : ∀ H, Pv n H → Qd H) :
    ∃ W : Nat → Nat → Hp → Prop, (∃ m, W 0 m (upd H1 D (.dK []))) ∧ ∀ i m H, W i m H →
      (J.stop i H ∧ Qd H) ∨ (J.go i H ∧ ∃ Nx : Hp → Prop, (∀ H', Nx H' → ∃ m', m' < m ∧ W (i + 1) m' H') ∧ ∀ x H', J.yld i H x H' → g x (L2.wipe σ vs) H' fun σ2 H2 => L2.wipe σ2 vs = L2.wipe σ vs ∧ tt σ2 H2 fun b H3 =>
        if b = true then tk σ2 H3 fun y H4 => tv σ2 H4 fun z H5 => ∃ kvs k, y = kV k ∧ H5 D = some (.dK kvs) ∧ kvs.length < sizeLine ∧ Nx (upd H5 D (.dK (putK kvs k z))) else Nx H3) := by
  refine ⟨fun i m H => m = n - i ∧ i ≤ n ∧ Pv i H, ⟨n, by simp, Nat.zero_le _, h0⟩, ?_⟩
  rintro i m H ⟨rfl, hi, p⟩
  have q := hG i H hi p
  by_cases hlt : i < n
  · exact .inr ⟨w.goes i H hlt q, Pv (i + 1), fun H' p' => ⟨n - (i + 1), by omega, rfl, hlt, p'⟩, fun x H' y => hs i x H H' hlt p (w.yields i H x H' hlt q y)⟩
  · have e : i = n := by omega
    subst e
    exact .inl ⟨w.stops H q, hd H p⟩
theorem evw_dc {wi : TI} {g : TG} {tt : TT} {tk te : TE} {w : WI} {is : List Nat} {wg : D → Env → (Env → Prop) → Prop} {wt : WT} {wk we : WE} {vs : List Nat} {E' : XK} (hi : IvW R K E wi w) (hg : TgW R K g is wg) (his : ∀ i ∈ is, i ∈ vs)
    (ht : EtW R K E' tt wt) (hk : EvW R K E' tk wk) (he : EvW R K E' te we) : EvW R K E (tDc wi g tt tk te vs) (wDc w wg wt wk we vs) := by
  intro F0 H0 env σ F H Xn Q Q' t ws q k
  refine hi F0 H0 env σ F H _ _ _ t ws q fun J ds F1 H1 s o dw q1 => ?_
  intro A hA
  obtain ⟨hz, q1⟩ := q1
  have na := o.notA hA
  have t1 := t.step s o
  refine dc_it (n := ds.length) (G := fun H => ∃ F, Same F1 F ∧ Ok R F H) (Y := fun i H x H' => ∀ F d, Same F1 F → Ok R F H → ds[i]? = some d → ∃ F', Stp R F H F' H' ∧ Ok R F' H' ∧ Rv K F' x d)
    ⟨fun i H hi ⟨F, h1, h2⟩ => dw.go i F H h1 h2 hi, fun H ⟨F, h1, h2⟩ => dw.stop F H h1 h2, fun i H x H' hi _ y F d h1 h2 hd => dw.yld i F H x H' d h1 h2 hd y⟩
    (fun i H2 => ∃ F2 acc xs, Stp R F1 H1 F2 H2 ∧ Ok R F2 H2 ∧ H2 A = some (.dK xs) ∧ F2 A = none ∧ xs.map (·.1) = acc.map (·.1) ∧ RvA K F2 (xs.map (·.2)) (acc.map (·.2)) ∧ acc.length ≤ i ∧ dcW wg wt wk we (wipeE env vs) (ds.drop i) acc fun ys => Q' (.nd ys))
    ⟨F1, [], [], o.newT hA, o.newO hA, upd_same, o.notF hA, rfl, .nil, Nat.le_refl _, q1⟩ (fun i H2 _ ⟨F2, acc, xs, h1, h2, _⟩ => ⟨F2, h1.ex, h2⟩) ?_ ?_
  · rintro i x H2 H3 hlt ⟨F2, acc, xs, s2, o2, hL, hF, ek, r, hl, q2⟩ y
    obtain ⟨F3, s3, o3, rv⟩ := y F2 ds[i] s2.ex o2 (by simp [hlt])
    rw [List.drop_eq_getElem_cons hlt] at q2
    have t3 : Sta R K F0 H0 (wipeE env vs) (wipe σ vs) F3 H3 := (t1.wipe vs).step (s2.trans s3) o3
    refine hg F0 H0 _ _ F3 H3 x _ _ _ t3 rv q2 fun env4 σ4 t4 hw q4 => ⟨?_, ?_⟩
    · rw [hw vs his, wipe_wipe]
    refine ht F0 H0 env4 σ4 F3 H3 NoX _ _ t4 wish_no q4 fun b F5 H5 s5 o5 q5 => ?_
    have s35 := s3.trans s5
    cases b with
    | false =>
      rw [if_neg Bool.false_ne_true] at q5 ⊢
      exact ⟨F5, acc, xs, s2.trans s35, o5, s35.keep _ _ hL na, s35.own A (by rw [hL]; simp) hF, ek, r.mono s35.ex, Nat.le_succ_of_le hl, q5⟩
    | true =>
      rw [if_pos rfl] at q5 ⊢
      refine hk F0 H0 env4 σ4 F5 H5 NoX _ _ (t4.step s5 o5) wish_no q5 fun vk rk F6 H6 s6 o6 rrk q6 => ?_
      obtain ⟨kk, hkk, q6⟩ := gOpt_ex q6
      have ekk := key_of rrk.top hkk
      refine he F0 H0 env4 σ4 F6 H6 NoX _ _ ((t4.step s5 o5).step s6 o6) wish_no q6 fun v r6 F7 H7 s7 o7 rr q7 => ?_
      obtain ⟨d, F8, s8, o8, rv8, q8⟩ := rr.fz s7 o7 q7
      have s38 := (s35.trans s6).trans s8
      have lx : xs.length = acc.length := by have := congrArg List.length ek; simpa using this
      refine ⟨xs, kk, ekk, s38.keep _ _ hL na, by rw [lx]; omega, ?_⟩
      have hF8 := s38.own A (by rw [hL]; simp) hF
      obtain ⟨p1, p2⟩ := put_rel (k := kk) rv8 ek (r.mono s38.ex)
      have pl := putD_len (kvs := acc) (k := kk) (d := d)
      exact ⟨F8, putD acc kk d, _, (s2.trans s38).mut hA, o8.mut hF8 na, upd_same, hF8, p1, p2, by omega, q8⟩
  · rintro H2 ⟨F2, acc, xs, s2, o2, hL, hF, ek, r, hl, q2⟩
    rw [List.drop_length] at q2
    exact k _ (.nd acc) F2 H2 (s.trans s2) o2 ⟨A, xs, rfl, s.fresh hA, hL, hF, na, ek, r⟩ q2
theorem dcW_ind {wg : D → Env → (Env → Prop) → Prop} {wt : WT} {wk we : WE} {env : Env} {Q : List (Key × D) → Prop} (Inv : List D → List (Key × D) → Prop) (nil : ∀ acc, Inv [] acc → Q acc)
    (cons : ∀ d ds acc, Inv (d :: ds) acc → (∀ a, Inv ds a → dcW wg wt wk we env ds a Q) → wg d env fun env' => wt env' NoX fun b => if b = true then wk env' NoX fun rk => gOpt rk.val.key fun k => we env' NoX fun r => fzW r fun y => dcW wg wt wk we env ds (putD acc k y) Q else dcW wg wt wk we env ds acc Q) :
    ∀ {ds : List D} {acc : List (Key × D)}, Inv ds acc → dcW wg wt wk we env ds acc Q
  | [], acc, h => nil acc h
  | d :: ds, acc, h => cons d ds acc h fun e he => dcW_ind Inv nil cons he
end
section
variable {X : Cx} {R : Res} {E : XK} {e kx vx tg iter : Expr} {te ti : TE} {we : WE} {pos : Pos} {ifs : List Expr} {scope : Scope} {own : List (Str × Nat)} {tI : TI} {wI : WI} {is : List Nat} {wg : D → Env → (Env → Prop) → Prop} {wt : WT} {wk : WE}
  {g : Shared → Hp → Addr → List (Str × Addr) → List Addr → TG} {tt : Shared → Hp → Addr → List (Str × Addr) → List Addr → TT} {tk tv : Shared → Hp → Addr → List (Str × Addr) → List Addr → TE}
theorem v_frzD (h : VE X R E e te we) : VE X R E e (tFrzD te) (wFrzD we) := ⟨pe_frzD h.p, evw_frzD h.w⟩
theorem i_keys (h : VE X R E e te we) : VI X R E tg e (iKeys te) (wIKeys we) := ⟨pi_keys h.p, ivw_keys h.w⟩
theorem v_dc (hc : X.calm = true) (hN : X.N.Nodup) (hi : VI X R E tg iter tI wI) (ok : blkC X.N X.env.scope scope own = true)
    (hg : ∀ (s : Shared) (H : Hp) (C : Addr) (cl : List (Str × Addr)) (fp : List Addr), VG (X.blk s H scope (compEnvC scope cl C X.env) fp) R tg (g s H C cl fp) is wg)
    (ht : ∀ (s : Shared) (H : Hp) (C : Addr) (cl : List (Str × Addr)) (fp : List Addr), VTs (X.blk s H scope (compEnvC scope cl C X.env) fp) R E0 ifs (tt s H C cl fp) wt)
    (hk : ∀ (s : Shared) (H : Hp) (C : Addr) (cl : List (Str × Addr)) (fp : List Addr), VE (X.blk s H scope (compEnvC scope cl C X.env) fp) R E0 kx (tk s H C cl fp) wk)
    (he : ∀ (s : Shared) (H : Hp) (C : Addr) (cl : List (Str × Addr)) (fp : List Addr), VE (X.blk s H scope (compEnvC scope cl C X.env) fp) R E0 vx (tv s H C cl fp) we)
    (his : ∀ i ∈ is, i ∈ own.map (·.2) := by decide) (eg : ∀ (s : Shared) (H : Hp) (C : Addr) (cl : List (Str × Addr)) (fp : List Addr), g s H C cl fp = g X.s_0 X.H_0 0 [] [] := by intros; rfl)
    (et : ∀ (s : Shared) (H : Hp) (C : Addr) (cl : List (Str × Addr)) (fp : List Addr), tt s H C cl fp = tt X.s_0 X.H_0 0 [] [] := by intros; rfl) (ek : ∀ (s : Shared) (H : Hp) (C : Addr) (cl : List (Str × Addr)) (fp : List Addr), tk s H C cl fp = tk X.s_0 X.H_0 0 [] [] := by intros; rfl)
    (ee : ∀ (s : Shared) (H : Hp) (C : Addr) (cl : List (Str × Addr)) (fp : List Addr), tv s H C cl fp = tv X.s_0 X.H_0 0 [] [] := by intros; rfl) (hs : ∀ x, foldedSetIterable iter X.env x = pure x := by intro _; rfl) :
    VE X R E (.DictComp kx vx [⟨tg, iter, ifs, 0⟩] scope pos) (tDc tI (g X.s_0 X.H_0 0 [] []) (tt X.s_0 X.H_0 0 [] []) (tk X.s_0 X.H_0 0 [] []) (tv X.s_0 X.H_0 0 [] []) (own.map (·.2))) (wDc wI wg wt wk we (own.map (·.2))) :=
  ⟨pe_dc hc hN hi.p (blkOk_by ok) (fun s H C cl fp => by rw [← eg s H C cl fp]; exact (hg s H C cl fp).p) (fun s H C cl fp => by rw [← et s H C cl fp]; exact (ht s H C cl fp).p) (fun s H C cl fp => by rw [← ek s H C cl fp]; exact (hk s H C cl fp).p) (fun s H C cl fp => by rw [← ee s H C cl fp]; exact (he s H C cl fp).p) hs,
    evw_dc hi.w (hg X.s_0 X.H_0 0 [] []).w his (ht X.s_0 X.H_0 0 [] []).w (hk X.s_0 X.H_0 0 [] []).w (he X.s_0 X.H_0 0 [] []).w⟩
end
section
variable {X : Cx} {R : Res} {E : XK} {pos : Pos}
def wDict0 : WE := fun _ _ Q => Q (.nd [])
theorem evw_dict0 {K : PySem.W.Frag} : EvW R K E tDNewK wDict0 := by
  intro F0 H0 env σ F H Xn Q Q' t ws q k
  intro p hp
  exact k _ (.nd []) F _ (t.ok.newT hp) (t.ok.newO hp) ⟨p, [], rfl, hp, upd_same, t.ok.notF hp, t.ok.notA hp, rfl, .nil⟩ q
theorem v_dict0 : VE X R E (.Dict [] [] pos) tDNewK wDict0 := ⟨pe_dnewK, evw_dict0⟩
end
end VH

set_option Elab.async false
set_option maxRecDepth 100000
set_option linter.all false
set_option maxHeartbeats 2000000
/-! a list of lists that are filled in place: xs = [[] for _ in ..]; for i, ts in enumerate(f): for t in ts: xs[t].append(i) -/
namespace VH
open PySem L2
theorem nodup_idx {α : Type} {l : List α} (h : l.Nodup) {i j : Nat} {a : α} (hi : l[i]? = some a) (hj : l[j]? = some a) : i = j := by
  obtain ⟨i1, i2⟩ := List.getElem?_eq_some_iff.mp hi
  obtain ⟨j1, j2⟩ := List.getElem?_eq_some_iff.mp hj
  rcases Nat.lt_trichotomy i j with c | c | c
  · exact absurd (i2.trans j2.symm) (List.pairwise_iff_getElem.mp h i j i1 j1 c)
  · exact c
  · exact absurd (j2.trans i2.symm) (List.pairwise_iff_getElem.mp h j i j1 i1 c)
structure Nest (R : Res) (H0 F H : Hp) (p : Addr) (qs : List Addr) (cs : List (List Int)) : Prop where
  top : H p = some (.lst (qs.map V.ref))
  nd : qs.Nodup
  pq : p ∉ qs
  fresh : ∀ a, a = p ∨ a ∈ qs → H0 a = none ∧ F a = none ∧ ¬ R.A a
  len : qs.length = cs.length
  inn : ∀ (i : Nat) q, qs[i]? = some q → ∃ c, cs[i]? = some c ∧ H q = some (.lst (c.map V.int))
section
variable {R : Res} {K : PySem.W.Frag} {E : XK} {H0 F H F' H' : Hp} {p : Addr} {qs : List Addr} {cs : List (List Int)}
theorem Nest.there (n : Nest R H0 F H p qs cs) {a : Addr} (h : a = p ∨ a ∈ qs) : H a ≠ none := by
  rcases h with rfl | h
  · rw [n.top]; simp
  · obtain ⟨i, hi⟩ := List.getElem?_of_mem h
    obtain ⟨c, _, e⟩ := n.inn i a hi
    rw [e]; simp
theorem Nest.step (n : Nest R H0 F H p qs cs) (s : Stp R F H F' H') : Nest R H0 F' H' p qs cs := by
  refine ⟨s.keep _ _ n.top (n.fresh p (.inl rfl)).2.2, n.nd, n.pq, fun a ha => ?_, n.len, fun i q hq => ?_⟩
  · obtain ⟨h1, h2, h3⟩ := n.fresh a ha
    exact ⟨h1, s.own a (n.there ha) h2, h3⟩
  · obtain ⟨c, h1, h2⟩ := n.inn i q hq
    exact ⟨c, h1, s.keep _ _ h2 (n.fresh q (.inr (List.mem_of_getElem? hq))).2.2⟩
theorem Nest.app (n : Nest R H0 F H p qs cs) {i : Nat} {q : Addr} {c : List Int} (hq : qs[i]? = some q) (hc : cs[i]? = some c) (x : Int) : Nest R H0 F (upd H q (.lst ((c ++ [x]).map V.int))) p qs (cs.set i (c ++ [x])) := by
  have mq := List.mem_of_getElem? hq
  have hi := (List.getElem?_eq_some_iff.mp hc).1
  refine ⟨by rw [upd_ne (fun z => n.pq (by rw [z]; exact mq))]; exact n.top, n.nd, n.pq, n.fresh, by rw [List.length_set]; exact n.len, fun j r hr => ?_⟩
  by_cases e : j = i
  · subst e
    rw [hq] at hr
    cases hr
    exact ⟨_, List.getElem?_set_self hi, upd_same⟩
  · obtain ⟨d, h1, h2⟩ := n.inn j r hr
    refine ⟨d, by rw [List.getElem?_set_ne (fun z => e z.symm)]; exact h1, ?_⟩
    rw [upd_ne]
    · exact h2
    · rintro rfl
      exact e (nodup_idx n.nd hr hq)
/-- what it holds, as a value -/
def nestD (cs : List (List Int)) : D := .lst (cs.map fun c => .lst (c.map D.int))
theorem Nest.freeze {F1 H1 : Hp} (n : Nest R H1 F H p qs cs) (o : Ok R F H) (s : Stp R F1 H1 F H) : ∃ F', Stp R F1 H1 F' H ∧ Ok R F' H ∧ Same F F' ∧ Rv K F' (.ref p) (nestD cs) := by
  refine ⟨fun a => if a = p ∨ a ∈ qs then H a else F a, ⟨fun b u e => ?_, s.keep, fun a h1 h2 => ?_, s.dom⟩, ⟨fun b u e => ?_, o.j, fun a ha => ?_⟩, fun b u e => ?_, ?_⟩
  · show (if b = p ∨ b ∈ qs then H b else F b) = _
    by_cases c : b = p ∨ b ∈ qs
    · have := s.ex b u e
      rw [(n.fresh b c).2.1] at this
      cases this
    · rw [if_neg c]; exact s.ex b u e
  · show (if a = p ∨ a ∈ qs then H a else F a) = _
    by_cases c : a = p ∨ a ∈ qs
    · exact absurd (n.fresh a c).1 h1
    · rw [if_neg c]; exact s.own a h1 h2
  · by_cases c : b = p ∨ b ∈ qs
    · simp only [if_pos c] at e; exact e
    · simp only [if_neg c] at e; exact o.ex b u e
  · show (if a = p ∨ a ∈ qs then H a else F a) = _
    by_cases c : a = p ∨ a ∈ qs
    · exact absurd ha (n.fresh a c).2.2
    · rw [if_neg c]; exact o.dis a ha
  · show (if b = p ∨ b ∈ qs then H b else F b) = _
    by_cases c : b = p ∨ b ∈ qs
    · rw [(n.fresh b c).2.1] at e; cases e
    · rw [if_neg c]; exact e
  · have go : ∀ (rs : List Addr) (ds : List (List Int)), rs.length = ds.length → (∀ (i : Nat) q, rs[i]? = some q → q ∈ qs ∧ ∃ c, ds[i]? = some c ∧ H q = some (.lst (c.map V.int))) →
        RvA K (fun a => if a = p ∨ a ∈ qs then H a else F a) (rs.map V.ref) (ds.map fun c => .lst (c.map D.int)) := by
      intro rs
      induction rs with
      | nil => intro ds hl _; cases ds with
        | nil => exact .nil
        | cons d ds => simp at hl
      | cons r rs ih =>
        intro ds hl h
        cases ds with
        | nil => simp at hl
        | cons d ds =>
          obtain ⟨m, c, h1, h2⟩ := h 0 r rfl
          have h1 : d = c := by simpa using h1
          subst h1
          refine .cons (.lst (xs := d.map V.int) (by rw [if_pos (.inr m)]; exact h2) (rva_map d)) (ih ds (by simpa using hl) fun i q hq => ?_)
          have := h (i + 1) q (by simpa using hq)
          simpa using this
    exact .lst (xs := qs.map V.ref) (by show (if p = p ∨ p ∈ qs then H p else F p) = _; rw [if_pos (.inl rfl)]; exact n.top) (go qs cs n.len fun i q hq => ⟨List.mem_of_getElem? hq, n.inn i q hq⟩)

/-- the list of new empty lists -/
theorem nest_lc {u : Nat} {vs : List Nat} {F0 H0 F H : Hp} {env : Env} {σ : L2.St} {Xn : Exn → Prop} {Q : VK} {wi : TI} {w : WI} (hi : IvW R K E wi w) (t : Sta R K F0 H0 env σ F H) (ws : Wish R K F0 H0 E Xn) (hu : u ∈ vs)
    {Q' : List D → Prop} (q : w env Xn Q') (hz : ∀ ds, Q' ds → ds.length ≤ sizeLine) (k : ∀ ds (p : Addr) (qs : List Addr) F' H', Q' ds → Stp R F H F' H' → Ok R F' H' → Nest R H F' H' p qs (List.replicate ds.length []) → Q (.ref p) H') :
    tLc wi (gName u) tYes (tLst tNil) vs σ H Q := by
  refine hi F0 H0 env σ F H _ _ _ t ws q fun J ds F1 H1 s o dw q1 => ?_
  intro A hA
  have hz := hz ds q1
  have na := o.notA hA
  refine lc_it (n := ds.length) (G := fun H => ∃ F, Same F1 F ∧ Ok R F H) (Y := fun i H x H' => ∀ F d, Same F1 F → Ok R F H → ds[i]? = some d → ∃ F', Stp R F H F' H' ∧ Ok R F' H' ∧ Rv K F' x d)
    ⟨fun i H hi ⟨F, h1, h2⟩ => dw.go i F H h1 h2 hi, fun H ⟨F, h1, h2⟩ => dw.stop F H h1 h2, fun i H x H' hi _ y F d h1 h2 hd => dw.yld i F H x H' d h1 h2 hd y⟩
    (fun i H2 => ∃ F2 qs, Stp R F1 H1 F2 H2 ∧ Ok R F2 H2 ∧ Nest R H1 F2 H2 A qs (List.replicate i [])) ⟨F1, [], o.newT hA, o.newO hA, ⟨upd_same, List.nodup_nil, by simp, fun a ha => (by rcases ha with rfl | h; exact ⟨hA, o.notF hA, na⟩; cases h), rfl, fun i q h => (by simp at h)⟩⟩ (fun i H2 _ ⟨F2, qs, h1, h2, _⟩ => ⟨F2, h1.ex, h2⟩) ?_ ?_
  · rintro i x H2 H3 hlt ⟨F2, qs, s2, o2, n2⟩ y
    obtain ⟨F3, s3, o3, rv⟩ := y F2 ds[i] s2.ex o2 (by simp [hlt])
    have n3 := n2.step s3
    have s13 := s2.trans s3
    refine ⟨?_, ?_⟩
    · rw [wipe_set hu, wipe_wipe]
    conv => whnf
    refine ⟨Nat.zero_le _, fun l hl => ?_⟩
    have hl1 : H1 l = none := s13.fresh hl
    have nl : A ≠ l := fun z => n3.there (.inl z.symm) hl
    have nq : ∀ q ∈ qs, q ≠ l := fun q hq z => n3.there (.inr hq) (by rw [z]; exact hl)
    have ql : qs.length = i := by have := n3.len; simpa using this
    obtain ⟨a1, a2, a3⟩ := n3.fresh A (.inl rfl)
    refine ⟨qs.map V.ref, by rw [upd_ne nl]; exact n3.top, by rw [List.length_map, ql]; omega, F3, qs ++ [l], (s13.mut hl1).mut a1, (o3.newO hl).mut a2 a3, ⟨by rw [upd_same, List.map_append]; rfl, ?_, ?_, fun a ha => ?_, by simp [ql], fun j q hq => ?_⟩⟩
    · refine List.nodup_append.mpr ⟨n3.nd, by simp, fun x hx y hy => ?_⟩
      rw [List.mem_singleton.mp hy]
      exact nq x hx
    · intro h
      rcases List.mem_append.mp h with h | h
      · exact n3.pq h
      · exact nl (List.mem_singleton.mp h)
    · by_cases c : a = l
      · subst c
        exact ⟨hl1, o3.notF hl, o3.notA hl⟩
      · refine n3.fresh a (ha.imp id fun h => ?_)
        rcases List.mem_append.mp h with h | h
        · exact h
        · exact absurd (List.mem_singleton.mp h) c
    · by_cases c : j < qs.length
      · rw [List.getElem?_append_left c] at hq
        obtain ⟨d, d1, d2⟩ := n3.inn j q hq
        have mq := List.mem_of_getElem? hq
        rw [List.getElem?_replicate, if_pos (by omega)] at d1
        cases d1
        refine ⟨[], by rw [List.getElem?_replicate, if_pos (by omega)], ?_⟩
        rw [upd_ne (fun z => n3.pq (by rw [← z]; exact mq)), upd_ne (nq q mq)]
        exact d2
      · rw [List.getElem?_append_right (by omega)] at hq
        cases z : j - qs.length with
        | zero =>
          rw [z] at hq
          cases hq
          refine ⟨[], by rw [List.getElem?_replicate, if_pos (by omega)], ?_⟩
          rw [upd_ne nl.symm, upd_same]
          rfl
        | succ y => rw [z] at hq; simp at hq
  · rintro H2 ⟨F2, qs, s2, o2, n2⟩
    refine k ds A qs F2 H2 q1 (s.trans s2) o2 ⟨n2.top, n2.nd, n2.pq, fun a ha => ?_, n2.len, n2.inn⟩
    obtain ⟨h1, h2, h3⟩ := n2.fresh a ha
    exact ⟨s.fresh h1, h2, h3⟩
end
end VH

set_option Elab.async false
set_option maxRecDepth 100000
set_option linter.all false
set_option maxHeartbeats 2000000
namespace VH
open PySem L2
section
variable {R : Res} {K : PySem.W.Frag} {E : XK} {F0 H0 F1 H1 F H F' H' : Hp} {p : Addr} {qs : List Addr} {cs : List (List Int)} {env env1 : Env} {σ σ1 : L2.St} {L : List Nat} {b : Nat}
/-- a change at an address that no slot owns -/
theorem Sta.mutOut (t : Sta R K F0 H0 env σ F H) {q : Addr} {o : HO} (h0 : H0 q = none) (hF : F q = none) (ha : ¬ R.A q) (hn : ∀ j, (get env j).own = true → σ[j]? ≠ some (some (.ref q))) : Sta R K F0 H0 env σ F (upd H q o) := by
  refine ⟨t.ok.mut hF ha, t.stp.mut h0, t.len, fun j => ?_, t.inj⟩
  have z := t.sl j
  cases hs : get env j with
  | un => trivial
  | sh d => rw [hs] at z; exact z
  | ow ds =>
    rw [hs] at z
    obtain ⟨p2, xs, z1, z2, z3, z4, z5, z6⟩ := z
    exact ⟨p2, xs, z1, z2, z3, z4, by rw [upd_ne (fun e => hn j (by rw [hs]) (by rw [z1, e]))]; exact z5, z6⟩
  | od gs =>
    rw [hs] at z
    obtain ⟨p2, xs, z1, z2, z3, z4, z5, z6, z7⟩ := z
    exact ⟨p2, xs, z1, z2, z3, z4, by rw [upd_ne (fun e => hn j (by rw [hs]) (by rw [z1, e]))]; exact z5, z6, z7⟩
  | oi C a gs =>
    rw [hs] at z
    obtain ⟨p2, dx, xs, ⟨z1, za⟩, z2, z3, z4, z5, z6, z7⟩ := z
    exact ⟨p2, dx, xs, ⟨z1, za⟩, z2, z3, z4, by rw [upd_ne (fun e => hn j (by rw [hs]) (by rw [z1, e]))]; exact z5, z6, z7⟩
structure NSt (R : Res) (K : PySem.W.Frag) (F0 H0 F1 H1 : Hp) (p : Addr) (qs : List Addr) (L : List Nat) (b : Nat) (env1 : Env) (σ1 : L2.St) (env : Env) (σ : L2.St) (F H : Hp) (cs : List (List Int)) : Prop where
  st : Sta R K F0 H0 env σ F H
  sp : Stp R F1 H1 F H
  ne : Nest R H1 F H p qs cs
  same : ∀ j, j ∉ L → get env j = get env1 j ∧ σ[j]? = σ1[j]?
  low : ∀ j ∈ L, (get env j).own = false
  at_ : σ[b]? = some (some (.ref p))
  len : env.length = env1.length
theorem NSt.step (n : NSt R K F0 H0 F1 H1 p qs L b env1 σ1 env σ F H cs) (s : Stp R F H F' H') (o : Ok R F' H') : NSt R K F0 H0 F1 H1 p qs L b env1 σ1 env σ F' H' cs :=
  ⟨n.st.step s o, n.sp.trans s, n.ne.step s, n.same, n.low, n.at_, n.len⟩
theorem NSt.app (t1 : Sta R K F0 H0 env1 σ1 F1 H1) (n : NSt R K F0 H0 F1 H1 p qs L b env1 σ1 env σ F H cs) {i : Nat} {q : Addr} {c : List Int} (hq : qs[i]? = some q) (hc : cs[i]? = some c) (x : Int) :
    NSt R K F0 H0 F1 H1 p qs L b env1 σ1 env σ F (upd H q (.lst ((c ++ [x]).map V.int))) (cs.set i (c ++ [x])) := by
  obtain ⟨h1, h2, h3⟩ := n.ne.fresh q (.inr (List.mem_of_getElem? hq))
  refine ⟨n.st.mutOut (t1.stp.fresh h1) h2 h3 fun j hj e => ?_, n.sp.mut h1, n.ne.app hq hc x, n.same, n.low, n.at_, n.len⟩
  by_cases m : j ∈ L
  · rw [n.low j m] at hj; cases hj
  · obtain ⟨s1, s2⟩ := n.same j m
    rw [s1] at hj
    obtain ⟨a, a1, _, _, _, a5⟩ := (t1.sl j).addr hj
    rw [s2, a1] at e
    cases e
    exact a5 h1
theorem NSt.set (n : NSt R K F0 H0 F1 H1 p qs L b env1 σ1 env σ F H cs) {i : Nat} {v : V} {d : D} (hi : i ∈ L) (hb : i ≠ b) (h : Rv K F v d) : NSt R K F0 H0 F1 H1 p qs L b env1 σ1 (put env i (.sh d)) (σ.set i (some v)) F H cs := by
  refine ⟨n.st.setS h, n.sp, n.ne, fun j hj => ?_, fun j hj => ?_, ?_, by rw [put_length]; exact n.len⟩
  · have ne : j ≠ i := fun z => hj (z ▸ hi)
    rw [get_put_ne ne, List.getElem?_set_ne (Ne.symm ne)]
    exact n.same j hj
  · by_cases e : j = i
    · subst e
      by_cases hl : j < env.length
      · rw [get_put_same hl]
      · rw [put_out (Nat.le_of_not_lt hl)]; exact n.low j hj
    · rw [get_put_ne e]; exact n.low j hj
  · rw [List.getElem?_set_ne hb]; exact n.at_
/-- row is noted at each of ts -/
def bk (row : Int) : List Nat → List (List Int) → List (List Int)
  | [], cs => cs
  | t :: ts, cs => bk row ts (cs.set t (cs.getD t [] ++ [row]))
def bks : Nat → List (List Nat) → List (List Int) → List (List Int)
  | _, [], cs => cs
  | i, ts :: r, cs => bks (i + 1) r (bk (i : Nat) ts cs)
def natsD (l : List Nat) : List D := l.map fun t => .int (t : Nat)
/-- the inner loop: for tg in ts: xs[tg].append(row) -/
theorem nest_inner {r ts tg : Nat} {row : Int} {D : Ends} (t1 : Sta R K F0 H0 env1 σ1 F1 H1) (n : NSt R K F0 H0 F1 H1 p qs L b env1 σ1 env σ F H cs) {l : List Nat} (hts : get env ts = .sh (.lst (natsD l))) (hr : get env r = .sh (.int row))
    (htl : tg < env1.length) (htgL : tg ∈ L) (hb : tg ≠ b) (hrt : tg ≠ r) (hlt : ∀ t ∈ l, t < cs.length) {T : Nat} (hT : T < sizeLine) (hc : ∀ c ∈ cs, c.length + l.length ≤ T)
    (k : ∀ env' σ' F' H', NSt R K F0 H0 F1 H1 p qs L b env1 σ1 env' σ' F' H' (bk row l cs) → Same F F' → D.nx σ' H') :
    tFor (iSeq K (tVar ts)) (gName tg) (tDrop (tBM K "list" rAppend (tOp (rIxA K) (tVar b) (tVar tg)) (tCons (tVar r) tNil))) D σ H := by
  refine ivw_seq (R := R) (E := E0) evw_var F0 H0 env σ F H NoX _ (fun ds => ds = natsD l) n.st wish_no ?_ fun J ds F2 H2 s o dw q1 => ?_
  · show wVar ts env NoX _
    unfold wVar
    rw [hts]
    rfl
  subst q1
  have n2 := n.step s o
  refine for_it (n := (natsD l).length) (G := fun H => ∃ F, Same F2 F ∧ Ok R F H) (Y := fun i H x H' => ∀ F d, Same F2 F → Ok R F H → (natsD l)[i]? = some d → ∃ F', Stp R F H F' H' ∧ Ok R F' H' ∧ Rv K F' x d)
    ⟨fun i H hi ⟨F, h1, h2⟩ => dw.go i F H h1 h2 hi, fun H ⟨F, h1, h2⟩ => dw.stop F H h1 h2, fun i H x H' hi _ y F d h1 h2 hd => dw.yld i F H x H' d h1 h2 hd y⟩
    (fun i σ' H' => ∃ env' F' cs', NSt R K F0 H0 F1 H1 p qs L b env1 σ1 env' σ' F' H' cs' ∧ Same F2 F' ∧ (∀ j, j ≠ tg → get env' j = get env j) ∧ bk row (l.drop i) cs' = bk row l cs ∧ cs'.length = cs.length ∧ ∀ c ∈ cs', c.length + (l.drop i).length ≤ T)
    ⟨env, F2, cs, n2, .refl _, fun _ _ => rfl, rfl, rfl, by simpa using hc⟩ (fun i σ' H' _ ⟨env', F', cs', h1, h2, _⟩ => ⟨F', h2, h1.st.ok⟩) ?_ ?_
  · rintro i x σ3 H3 H4 hi ⟨env3, F3, cs3, n3, sm, he, hk, hl3, hc3⟩ y
    have hi' : i < l.length := by simpa [natsD] using hi
    obtain ⟨F4, s4, o4, rv⟩ := y F3 (.int (l[i] : Nat)) sm n3.st.ok (by simp [natsD, hi'])
    cases rv
    have n4 := (n3.step s4 o4).set htgL hb (.int (l[i] : Nat))
    have z1 := n4.st.sl tg
    rw [get_put_same (by rw [n3.len]; exact htl)] at z1
    obtain ⟨v1, z1, zv⟩ := z1
    cases zv
    have z2 := n4.st.sl r
    rw [get_put_ne (Ne.symm hrt), he r (Ne.symm hrt), hr] at z2
    obtain ⟨v2, z2, zv⟩ := z2
    cases zv
    have hlt' : l[i] < cs3.length := by rw [hl3]; exact hlt _ (List.getElem_mem hi')
    obtain ⟨q, hq⟩ : ∃ q, qs[l[i]]? = some q := ⟨_, List.getElem?_eq_getElem (by rw [n4.ne.len]; exact hlt')⟩
    obtain ⟨c, hcc, hHq⟩ := n4.ne.inn _ q hq
    have mc := List.mem_of_getElem? hcc
    have hcl := hc3 c mc
    rw [List.length_drop] at hcl
    have hat : atI (qs.map V.ref) ((l[i] : Nat) : Int) = some (.ref q) := by
      unfold atI ixN
      have : l[i] < (qs.map V.ref).length := by rw [List.length_map, n4.ne.len]; exact hlt'
      rw [if_pos (Int.natCast_nonneg _), if_pos (by omega)]
      show (qs.map V.ref)[l[i]]? = _
      rw [List.getElem?_map, hq]
      rfl
    refine ⟨_, n4.at_, ?_⟩
    conv => whnf
    refine ⟨_, z1, ?_⟩
    conv => whnf
    refine .inl (.inl ⟨p, _, _, _, rfl, rfl, SqL.of n4.ne.top, hat, ?_⟩)
    conv => whnf
    refine ⟨.inl ⟨rfl, _, SqL.of hHq⟩, ?_⟩
    conv => whnf
    refine ⟨_, z2, ?_⟩
    conv => whnf
    refine ⟨q, _, _, rfl, rfl, hHq, by rw [List.length_map]; omega, ?_⟩
    have n5 := n4.app t1 hq hcc row
    rw [List.map_append] at n5
    refine ⟨_, F4, _, n5, sm.trans s4.ex, fun j hj => by rw [get_put_ne hj]; exact he j hj, ?_, by rw [List.length_set]; exact hl3, fun c' hc' => ?_⟩
    · rw [← hk, List.drop_eq_getElem_cons hi']
      show _ = bk row (l.drop (i + 1)) (cs3.set l[i] (cs3.getD l[i] [] ++ [row]))
      rw [show cs3.getD l[i] [] = c by rw [List.getD_eq_getElem?_getD, hcc]; rfl]
    · rw [List.length_drop]
      rcases List.mem_or_eq_of_mem_set hc' with h | h
      · have := hc3 c' h
        rw [List.length_drop] at this
        omega
      · subst h
        simp only [List.length_append, List.length_cons, List.length_nil]
        omega
  · rintro σ3 H3 ⟨env3, F3, cs3, n3, sm, he, hk, hl3, hc3⟩
    rw [show (natsD l).length = l.length by simp [natsD], List.drop_length] at hk
    rw [← hk] at k
    exact k env3 σ3 F3 H3 n3 (s.ex.trans sm)
theorem bk_len {row : Int} : ∀ {l : List Nat} {cs : List (List Int)}, (bk row l cs).length = cs.length
  | [], _ => rfl
  | t :: l, cs => by
    show (bk row l _).length = _
    rw [bk_len, List.length_set]
theorem bk_le {row : Int} {T m : Nat} : ∀ {l : List Nat} {cs : List (List Int)}, (∀ c ∈ cs, c.length + l.length + m ≤ T) → ∀ c ∈ bk row l cs, c.length + m ≤ T
  | [], _, h => fun c hc => by have := h c hc; simpa using this
  | t :: l, cs, h => by
    show ∀ c ∈ bk row l _, _
    refine bk_le fun c hc => ?_
    rcases List.mem_or_eq_of_mem_set hc with q | q
    · have := h c q
      simp only [List.length_cons] at this
      omega
    · subst q
      by_cases ht : t < cs.length
      · have := h cs[t] (List.getElem_mem ht)
        rw [List.getD_eq_getElem?_getD, List.getElem?_eq_getElem ht]
        simp only [List.length_append, List.length_cons, List.length_nil, Option.getD_some] at this ⊢
        omega
      · rw [List.set_eq_of_length_le (by omega)] at hc
        have := h _ hc
        simp only [List.length_append, List.length_cons, List.length_nil] at this ⊢
        omega
/-- the outer loop: for r, ts in enumerate(f): .. -/
theorem nest_outer {fo r ts tg : Nat} {Dn : Ends} (t1 : Sta R K F0 H0 env1 σ1 F1 H1) (n : NSt R K F0 H0 F1 H1 p qs L b env1 σ1 env σ F H cs) {G : List (List Nat)} (hfo : get env1 fo = .sh (.lst (G.map fun l => .lst (natsD l))))
    (fL : fo ∉ L) (rL : r ∈ L) (tsL : ts ∈ L) (tgL : tg ∈ L) (rb : r ≠ b) (tsb : ts ≠ b) (tgb : tg ≠ b) (rts : r ≠ ts) (tgr : tg ≠ r) (tgts : tg ≠ ts) (rl : r < env1.length) (tsl : ts < env1.length) (tgl : tg < env1.length)
    (hlt : ∀ l ∈ G, ∀ t ∈ l, t < cs.length) {T : Nat} (hT : T < sizeLine) (hc : ∀ c ∈ cs, c.length + (G.map List.length).sum ≤ T)
    (k : ∀ env' σ' F' H', NSt R K F0 H0 F1 H1 p qs L b env1 σ1 env' σ' F' H' (bks 0 G cs) → Dn.nx σ' H') :
    tFor (iEnum K (tCons (tVar fo) tNil)) (gTup K 2 (gCons (gName r) (gCons (gName ts) gNil))) (tFor (iSeq K (tVar ts)) (gName tg) (tDrop (tBM K "list" rAppend (tOp (rIxA K) (tVar b) (tVar tg)) (tCons (tVar r) tNil)))) Dn σ H := by
  have hfo' := hfo
  rw [← (n.same fo fL).1] at hfo
  refine ivw_enum (R := R) (E := E0) evw_var F0 H0 env σ F H NoX _ (fun ds => ds = enumD 0 (G.map fun l => .lst (natsD l))) n.st wish_no ?_ fun J ds F2 H2 s o dw q1 => ?_
  · show wVar fo env NoX _
    unfold wVar
    rw [hfo]
    rfl
  subst q1
  have n2 := n.step s o
  refine for_it (n := (enumD 0 (G.map fun l => D.lst (natsD l))).length) (G := fun H => ∃ F, Same F2 F ∧ Ok R F H) (Y := fun i H x H' => ∀ F d, Same F2 F → Ok R F H → (enumD 0 (G.map fun l => D.lst (natsD l)))[i]? = some d → ∃ F', Stp R F H F' H' ∧ Ok R F' H' ∧ Rv K F' x d)
    ⟨fun i H hi ⟨F, h1, h2⟩ => dw.go i F H h1 h2 hi, fun H ⟨F, h1, h2⟩ => dw.stop F H h1 h2, fun i H x H' hi _ y F d h1 h2 hd => dw.yld i F H x H' d h1 h2 hd y⟩
    (fun i σ' H' => ∃ env' F' cs', NSt R K F0 H0 F1 H1 p qs L b env1 σ1 env' σ' F' H' cs' ∧ Same F2 F' ∧ bks i (G.drop i) cs' = bks 0 G cs ∧ cs'.length = cs.length ∧ ∀ c ∈ cs', c.length + ((G.drop i).map List.length).sum ≤ T)
    ⟨env, F2, cs, n2, .refl _, rfl, rfl, hc⟩ (fun i σ' H' _ ⟨env', F', cs', h1, h2, _⟩ => ⟨F', h2, h1.st.ok⟩) ?_ ?_
  · rintro i x σ3 H3 H4 hi ⟨env3, F3, cs3, n3, sm, hk, hl3, hc3⟩ y
    have hi' : i < G.length := by rw [enumD_len, List.length_map] at hi; exact hi
    have hG : G[i]? = some G[i] := List.getElem?_eq_getElem hi'
    have hd : (enumD 0 (G.map fun l => D.lst (natsD l)))[i]? = some (.tup [.int ((i : Nat) : Int), .lst (natsD G[i])]) := by
      obtain ⟨d, hd⟩ : ∃ d, (enumD 0 (G.map fun l => D.lst (natsD l)))[i]? = some d := ⟨_, List.getElem?_eq_getElem hi⟩
      obtain ⟨e, he, rfl⟩ := enumD_get hd
      rw [List.getElem?_map, hG] at he
      cases he
      rw [hd, Nat.zero_add]
    obtain ⟨F4, s4, o4, rv⟩ := y F3 _ sm n3.st.ok hd
    cases rv with
    | tup hsq hra =>
    cases hra with
    | cons r1 hra =>
    cases hra with
    | cons r2 hra =>
    cases hra
    cases r1
    have n4 := ((n3.step s4 o4).set rL rb (.int ((i : Nat) : Int))).set tsL tsb r2
    refine ⟨_, _, rfl, sqT_mono o4.ex hsq, rfl, _, _, rfl, _, _, rfl, rfl, ?_⟩
    have gm : G[i] ∈ G := List.getElem_mem hi'
    rw [List.drop_eq_getElem_cons hi'] at hk hc3
    refine nest_inner (l := G[i]) (row := ((i : Nat) : Int)) (r := r) (ts := ts) t1 n4 (get_put_same (by rw [put_length, n3.len]; exact tsl)) (by rw [get_put_ne rts, get_put_same (by rw [n3.len]; exact rl)]) tgl tgL tgb tgr (fun t h => by rw [hl3]; exact hlt _ gm t h) hT (fun c h => by
      have := hc3 c h
      rw [List.map_cons, List.sum_cons] at this
      omega) fun env5 σ5 F5 H5 n5 sm5 => ?_
    refine ⟨env5, F5, _, n5, sm.trans (s4.ex.trans sm5), hk, by rw [bk_len]; exact hl3, bk_le (fun c h => ?_)⟩
    have := hc3 c h
    rw [List.map_cons, List.sum_cons] at this
    omega
  · rintro σ3 H3 ⟨env3, F3, cs3, n3, sm, hk, hl3, hc3⟩
    rw [enumD_len, List.length_map, List.drop_length] at hk
    have hk : cs3 = bks 0 G cs := hk
    rw [← hk] at k
    exact k env3 σ3 F3 H3 n3
end
end VH

set_option Elab.async false
set_option maxRecDepth 100000
set_option linter.all false
set_option maxHeartbeats 2000000
namespace VH
open PySem L2
section
variable {R : Res} {K : PySem.W.Frag} {E : XK}
theorem Sta.weak {F0 H0 F H : Hp} {e1 e2 : Env} {s1 s2 : L2.St} (t : Sta R K F0 H0 e1 s1 F H) (len : e2.length = s2.length) (h : ∀ j, get e2 j = .un ∨ (get e2 j = get e1 j ∧ s2[j]? = s1[j]?)) : Sta R K F0 H0 e2 s2 F H := by
  refine ⟨t.ok, t.stp, len, fun j => ?_, fun i j h1 h2 => ?_⟩
  · rcases h j with q | ⟨q, r⟩
    · rw [q]; trivial
    · rw [q, r]; exact t.sl j
  · rcases h i with q | ⟨q, r⟩
    · rw [q] at h1; cases h1
    · rcases h j with q' | ⟨q', r'⟩
      · rw [q'] at h2; cases h2
      · rw [q] at h1
        rw [q'] at h2
        rw [r, r']
        exact t.inj i j h1 h2
theorem get_wipeE {j : Nat} : ∀ {vs : List Nat} {env : Env}, get (wipeE env vs) j = .un ∨ (j ∉ vs ∧ get (wipeE env vs) j = get env j)
  | [], env => .inr ⟨by simp, rfl⟩
  | v :: vs, env => by
    have ih := get_wipeE (j := j) (vs := vs) (env := env)
    show get (put (wipeE env vs) v .un) j = .un ∨ _ ∧ get (put (wipeE env vs) v .un) j = _
    by_cases c : j = v
    · subst c
      by_cases hl : j < (wipeE env vs).length
      · exact .inl (get_put_same hl)
      · exact .inl (by rw [put_out (Nat.le_of_not_lt hl)]; exact get_out (Nat.le_of_not_lt hl))
    · rw [get_put_ne c]
      exact ih.imp id fun q => ⟨by simp [c, q.1], q.2⟩
theorem get_wipe_out {j : Nat} : ∀ {vs : List Nat} {env : Env}, j ∉ vs → get (wipeE env vs) j = get env j
  | [], _, _ => rfl
  | v :: vs, env, h => by
    show get (put (wipeE env vs) v .un) j = _
    rw [get_put_ne (fun z => h (by simp [z])), get_wipe_out fun z => h (by simp [z])]
theorem wipeE_len : ∀ {vs : List Nat} {env : Env}, (wipeE env vs).length = env.length
  | [], _ => rfl
  | v :: vs, env => by
    show (put (wipeE env vs) v .un).length = _
    rw [put_length, wipeE_len]
theorem set_self {α : Type} {l : List α} {i : Nat} {a : α} (h : l[i]? = some a) : l.set i a = l := by
  apply List.ext_getElem?
  intro j
  by_cases c : j = i
  · subst c
    rw [List.getElem?_set_self (List.getElem?_eq_some_iff.mp h).1, h]
  · rw [List.getElem?_set_ne (fun z => c z.symm)]
def wBack (w : WI) (fo r ts tg b : Nat) (wr : WS) : WS := fun env D => w env D.xn fun ds => ds.length ≤ sizeLine ∧ ∃ G : List (List Nat), get env fo = .sh (.lst (G.map fun l => .lst (natsD l))) ∧ (∀ l ∈ G, ∀ t ∈ l, t < ds.length) ∧ (G.map List.length).sum < sizeLine ∧
  (r < env.length ∧ ts < env.length ∧ tg < env.length ∧ b < env.length) ∧ wr (put (wipeE env [b, r, ts, tg]) b (.sh (nestD (bks 0 G (List.replicate ds.length []))))) D
theorem esw_back {wi : TI} {w : WI} {rest : TS} {wr : WS} {fo r ts tg b u : Nat} {vs : List Nat} (hi : IvW R K E wi w) (hu : u ∈ vs) (hr : EsW R K E rest wr) (fL : fo ∉ [b, r, ts, tg]) (rb : r ≠ b) (tsb : ts ≠ b) (tgb : tg ≠ b) (rts : r ≠ ts) (tgr : tg ≠ r) (tgts : tg ≠ ts) :
    EsW R K E (tSeq (tAsg (tLc wi (gName u) tYes (tLst tNil) vs) (gName b)) (tSeq (tFor (iEnum K (tCons (tVar fo) tNil)) (gTup K 2 (gCons (gName r) (gCons (gName ts) gNil))) (tFor (iSeq K (tVar ts)) (gName tg) (tDrop (tBM K "list" rAppend (tOp (rIxA K) (tVar b) (tVar tg)) (tCons (tVar r) tNil))))) rest))
      (wBack w fo r ts tg b wr) := by
  intro F0 H0 env σ F H D D' t ws e q
  show tLc wi (gName u) tYes (tLst tNil) vs σ H (fun x H1 => gName b x σ H1 fun σ' H' => tSeq (tFor (iEnum K (tCons (tVar fo) tNil)) (gTup K 2 (gCons (gName r) (gCons (gName ts) gNil))) (tFor (iSeq K (tVar ts)) (gName tg) (tDrop (tBM K "list" rAppend (tOp (rIxA K) (tVar b) (tVar tg)) (tCons (tVar r) tNil))))) rest D σ' H')
  refine nest_lc hi t ws hu q (fun ds h => h.1) fun ds p qs F1 H1 hq s o n => ?_
  obtain ⟨hz, G, hG, hlt, hT, ⟨rl, tsl, tgl, bl⟩, q2⟩ := hq
  have wlen : (L2.wipe σ [b, r, ts, tg]).length = σ.length := by rw [← (t.wipe [b, r, ts, tg]).len, wipeE_len, t.len]
  have t1 := t.wipe [b, r, ts, tg]
  have t2 := t.step s o
  have low : ∀ j ∈ [b, r, ts, tg], get (wipeE env [b, r, ts, tg]) j = .un := fun j hj => (get_wipeE (j := j)).resolve_right fun h => h.1 hj
  have out : ∀ j, j ∉ [b, r, ts, tg] → get (wipeE env [b, r, ts, tg]) j = get env j := fun j hj => get_wipe_out hj
  have sig : ∀ j, j ∉ [b, r, ts, tg] → (L2.wipe σ [b, r, ts, tg])[j]? = σ[j]? := fun j hj => by
    rw [wipe_get, if_neg (fun z => hj z.1)]
  have n0 : NSt R K F0 H0 F H p qs [b, r, ts, tg] b (wipeE env [b, r, ts, tg]) (L2.wipe σ [b, r, ts, tg]) (wipeE env [b, r, ts, tg]) (σ.set b (some (.ref p))) F1 H1 (List.replicate ds.length []) := by
    refine ⟨t2.weak (by rw [wipeE_len, List.length_set, t.len]) fun j => ?_, s, n, fun j hj => ⟨rfl, ?_⟩, fun j hj => by rw [low j hj], List.getElem?_set_self (by rw [← t.len]; exact bl), rfl⟩
    · rcases get_wipeE (j := j) (vs := [b, r, ts, tg]) (env := env) with h | ⟨h1, h2⟩
      · exact .inl h
      · exact .inr ⟨h2, List.getElem?_set_ne (fun z => h1 (by simp [z]))⟩
    · rw [sig j hj]
      exact List.getElem?_set_ne (fun z => hj (by simp [z]))
  refine nest_outer t1 n0 (G := G) (fo := fo) (r := r) (ts := ts) (tg := tg) (by rw [out fo fL]; exact hG) fL (by simp) (by simp) (by simp) rb tsb tgb rts tgr tgts (by rw [wipeE_len]; exact rl) (by rw [wipeE_len]; exact tsl) (by rw [wipeE_len]; exact tgl)
    (fun l hl t ht => by rw [List.length_replicate]; exact hlt l hl t ht) hT (fun c hc => by rw [List.eq_of_mem_replicate hc]; simp) fun env5 σ5 F5 H5 n5 => ?_
  obtain ⟨F6, s6, o6, sm, rv⟩ := n5.ne.freeze n5.st.ok n5.sp
  have t6 : Sta R K F0 H0 (wipeE env [b, r, ts, tg]) σ5 F6 H5 := (t.step s6 o6).weak (by rw [wipeE_len, ← n5.st.len, n5.len, wipeE_len]) fun j => by
    rcases get_wipeE (j := j) (vs := [b, r, ts, tg]) (env := env) with h | ⟨h1, h2⟩
    · exact .inl h
    · exact .inr ⟨h2, by rw [(n5.same j h1).2, sig j h1]⟩
  have t7 := t6.setS (i := b) rv
  rw [set_self n5.at_] at t7
  exact hr F0 H0 _ σ5 F6 H5 D D' t7 ws e q2
end
end VH

set_option Elab.async false
set_option maxRecDepth 100000
set_option linter.all false
set_option maxHeartbeats 2000000
namespace VH
open PySem L2
section
variable {X : Cx} {R : Res} {E : XK} {st1 st2 : Stmt} {rest body : List Stmt} {t : TS} {w : WS} {iter tgt o e tgx : Expr} {pos apos cpos : Pos} {to te : TE} {wo we : WE}
theorem p_for {tI : TI} {wI : WI} {g : TG} {is : List Nat} {wg : D → Env → (Env → Prop) → Prop} (hp : PassesOwn (model X.prog X.w) X.A X.env X.xe) (hc : X.calm = true) (hi : VI X R E tgt iter tI wI) (hg : VG X R tgt g is wg) (hb : PSs X body t) (hs : ∀ x, foldedSetIterable iter X.env x = pure x := by intro _; rfl) : PS X (.For tgt iter body [] pos) (tFor tI g t) := ps_for hp hc hi.p hg.p hb hs
theorem p_app (ho : VE X R E o to wo) (he : VE X R E e te we) (h1 : starEach [e] X.env = (false, eval e X.env) :: starEach [] X.env := by rfl)
    (hbase : attributeBase o "append" X.env (eval o X.env) = eval o X.env := by rfl)
    (hfew : ((backTo cpos (starEach [e] X.env)).all (fun x => !x.1) && (backToKw cpos (keywordEach [] X.env)).all (fun x => x.1.isSome) && decide ([e].length + ([] : List Keyword).length + (if ([] : List Keyword).isEmpty then 0 else 1) < 30)) = true := by rfl)
    (hline : (apos.endLine == cpos.line) = true := by rfl) (hpl : (backTo cpos (starEach [] X.env)).any (·.1) = false := by rfl) (hs : swapsWith (.Call (.Attribute o "append" apos) [e] [] cpos) none pos.line X.env = pure false := by rfl) :
    PS X (.Expr (.Call (.Attribute o "append" apos) [e] [] cpos) pos) (tDrop (tBM X.K "list" rAppend to (tCons te tNil))) :=
  ps_expr (pe_bm PySem.F.plainAttrs_list PySem.F.slot_list_append PySem.F.type_list_append mt_append ho.p (pa_cons he.p pa_nil h1) hbase hfew hline h1 hpl) hs
theorem b_back {wi : TI} {wI : WI} {fo r ts tg b u : Nat} {vs : List Nat} {wj : WS} {tgy elt : Expr} {ifs : List Expr} {scope : Scope} {ky : _} {pos1 spos : Pos} (h1 : VS X R E (.Assign [tgy] (.ListComp elt [⟨tgx, iter, ifs, ky⟩] scope pos1) spos) (tAsg (tLc wi (gName u) tYes (tLst tNil) vs) (gName b)) wj) (hi : VI X R E tgx iter wi wI)
    (h2 : PS X st2 (tFor (iEnum X.K (tCons (tVar fo) tNil)) (gTup X.K 2 (gCons (gName r) (gCons (gName ts) gNil))) (tFor (iSeq X.K (tVar ts)) (gName tg) (tDrop (tBM X.K "list" rAppend (tOp (rIxA X.K) (tVar b) (tVar tg)) (tCons (tVar r) tNil))))))
    (h3 : VB X R E rest t w) (hu : u ∈ vs := by decide) (fL : fo ∉ [b, r, ts, tg] := by decide) (rb : r ≠ b := by decide) (tsb : ts ≠ b := by decide) (tgb : tg ≠ b := by decide) (rts : r ≠ ts := by decide) (tgr : tg ≠ r := by decide) (tgts : tg ≠ ts := by decide) :
    VB X R E (.Assign [tgy] (.ListComp elt [⟨tgx, iter, ifs, ky⟩] scope pos1) spos :: st2 :: rest) (tSeq (tAsg (tLc wi (gName u) tYes (tLst tNil) vs) (gName b)) (tSeq (tFor (iEnum X.K (tCons (tVar fo) tNil)) (gTup X.K 2 (gCons (gName r) (gCons (gName ts) gNil))) (tFor (iSeq X.K (tVar ts)) (gName tg) (tDrop (tBM X.K "list" rAppend (tOp (rIxA X.K) (tVar b) (tVar tg)) (tCons (tVar r) tNil))))) t))
      (wBack wI fo r ts tg b w) := ⟨pss_cons h1.p (pss_cons h2 h3.p), esw_back hi.w hu h3.w fL rb tsb tgb rts tgr tgts⟩
end
end VH

set_option Elab.async false
set_option maxRecDepth 100000
set_option linter.all false
set_option maxHeartbeats 2000000
/-! in, not in: data in a list of data -/
namespace VH
open PySem L2
section
variable {R : Res} {K : PySem.W.Frag}
def gInD (neg : Bool) : D → D → (Rs → Prop) → Prop
  | a, .lst ds, Q => gOpt a.data fun x => gOpt (D.dataAll ds) fun xs => (SeqAt.shaped x = true ∧ SeqAt.shaped (.list xs) = true) ∧ Q (.sh (.bl (if neg then !(xs.any fun z => PyData.eqv z x) else xs.any fun z => PyData.eqv z x)))
  | _, _, _ => False
theorem opw_inD : OpW R K (rInD K) (gInD false) := by
  intro F H x y a b Q Q' o ha hb h k
  cases b <;> first | (cases a <;> exact h.elim) | skip
  rename_i ds
  have h : gOpt a.data fun x => gOpt (D.dataAll ds) fun xs => (SeqAt.shaped x = true ∧ SeqAt.shaped (.list xs) = true) ∧ Q' (.sh (.bl (xs.any fun z => PyData.eqv z x))) := by cases a <;> exact h
  obtain ⟨d, h1, h⟩ := gOpt_ex h
  obtain ⟨xs, h2, ⟨h3, h4⟩, q⟩ := gOpt_ex h
  exact ⟨d, xs, ha.dp o h1, hb.dp o (by show (D.dataAll ds).map PyData.list = _; rw [h2]; rfl), h3, h4, now o k (.bl _) q⟩
theorem opw_notInD : OpW R K (rNotInD K) (gInD true) := by
  intro F H x y a b Q Q' o ha hb h k
  cases b <;> first | (cases a <;> exact h.elim) | skip
  rename_i ds
  have h : gOpt a.data fun x => gOpt (D.dataAll ds) fun xs => (SeqAt.shaped x = true ∧ SeqAt.shaped (.list xs) = true) ∧ Q' (.sh (.bl (!(xs.any fun z => PyData.eqv z x)))) := by cases a <;> exact h
  obtain ⟨d, h1, h⟩ := gOpt_ex h
  obtain ⟨xs, h2, ⟨h3, h4⟩, q⟩ := gOpt_ex h
  exact ⟨d, xs, ha.dp o h1, hb.dp o (by show (D.dataAll ds).map PyData.list = _; rw [h2]; rfl), h3, h4, now o k (.bl _) q⟩
end
theorem c_inD {X : Cx} {R : Res} {k : Nat} (hr : Room k X.A) : CmpV X R .In (rInD X.K) (gInD false) := ⟨op_inD (by have := hr.un; omega), opw_inD⟩
theorem c_notInD {X : Cx} {R : Res} {k : Nat} (hr : Room k X.A) : CmpV X R .NotIn (rNotInD X.K) (gInD true) := ⟨op_notInD (by have := hr.un; omega), opw_notInD⟩
end VH

set_option Elab.async false
set_option maxRecDepth 100000
set_option linter.all false
set_option maxHeartbeats 2000000
/-! a call whose list of lists is new: its lists hidden from what it was told; then a list within it is changed -/
namespace VH
open PySem L2
mutual
/-- e is d, but lists and dicts may be told by their addresses alone -/
inductive Lk : D → D → Prop
  | same {d : D} : Lk d d
  | lst {ds : List D} {a : Addr} : Lk (.lst ds) (.ref a)
  | fls {ns : List Int} {a : Addr} : Lk (.fls ns) (.ref a)
  | dk {gs : List (Key × D)} {a : Addr} : Lk (.dk gs) (.ref a)
  | tup {ds es : List D} : LkA ds es → Lk (.tup ds) (.tup es)
  | obj {C : Addr} {gs hs : List (Str × D)} : gs.map (·.1) = hs.map (·.1) → LkA (gs.map (·.2)) (hs.map (·.2)) → Lk (.obj C gs) (.obj C hs)
inductive LkA : List D → List D → Prop
  | nil : LkA [] []
  | cons {d e : D} {ds es : List D} : Lk d e → LkA ds es → LkA (d :: ds) (e :: es)
end
theorem LkA.len : ∀ {ds es : List D}, LkA ds es → ds.length = es.length
  | [], [], .nil => rfl
  | _ :: _, _ :: _, .cons _ r => by simp [LkA.len r]
/-- F without its lists -/
def cutF (F : Hp) : Hp := fun a => match F a with
  | some (.lst _) => none
  | o => o
theorem cutF_sub {F : Hp} : Same (cutF F) F := fun b u e => by
  unfold cutF at e
  split at e
  · cases e
  · exact e
theorem cutF_of {F : Hp} {a : Addr} {u : HO} (h : F a = some u) (n : ∀ xs, u ≠ .lst xs) : cutF F a = some u := by
  unfold cutF
  split
  · rename_i xs e
    rw [h] at e
    cases e
    exact absurd rfl (n xs)
  · exact h
theorem cutF_lst {F : Hp} {a : Addr} {xs : List V} : cutF F a ≠ some (.lst xs) := fun e => by
  unfold cutF at e
  split at e
  · cases e
  · rename_i o n
    exact n _ e
theorem sqT_cut {K : PySem.W.Frag} {F : Hp} {a : Addr} {xs : List V} (h : SqT K F a xs) : SqT K (cutF F) a xs := by
  rcases h with (h | ⟨o, h⟩) | h
  · exact .inl (.inl (cutF_of h fun _ e => nomatch e))
  · exact .inl (.inr ⟨o, cutF_of h fun _ e => nomatch e⟩)
  · exact .inr h
theorem zip_back {α β : Type} : ∀ {ks : List α} {vs : List β}, ks.length = vs.length → ∃ l : List (α × β), l.map (·.1) = ks ∧ l.map (·.2) = vs
  | [], [], _ => ⟨[], rfl, rfl⟩
  | [], _ :: _, h => by cases h
  | _ :: _, [], h => by cases h
  | k :: ks, v :: vs, h => by
    obtain ⟨l, h1, h2⟩ := zip_back (ks := ks) (vs := vs) (Nat.succ.inj h)
    exact ⟨(k, v) :: l, by simp [h1], by simp [h2]⟩
mutual
theorem Rv.hide {K : PySem.W.Frag} {F : Hp} : ∀ {v : V} {d : D}, Rv K F v d → ∃ e, Rv K (cutF F) v e ∧ Lk d e
  | _, _, .non => ⟨_, .non, .same⟩
  | _, _, .bl b => ⟨_, .bl b, .same⟩
  | _, _, .int i => ⟨_, .int i, .same⟩
  | _, _, .str x => ⟨_, .str x, .same⟩
  | _, _, .ref a => ⟨_, .ref a, .same⟩
  | _, _, .ty n => ⟨_, .ty n, .same⟩
  | _, _, .tup h r => by
    obtain ⟨es, r2, l⟩ := RvA.hide r
    exact ⟨_, .tup (sqT_cut h) r2, .tup l⟩
  | _, _, .lst h r => ⟨_, .ref _, .lst⟩
  | _, _, .fls h => ⟨_, .ref _, .fls⟩
  | _, _, .obj (C := C) (gs := gs) h k r => by
    obtain ⟨es, r2, l⟩ := RvA.hide r
    have n := LkA.len l
    obtain ⟨hs, h1, h2⟩ := zip_back (ks := gs.map (·.1)) (vs := es) (by rw [← n]; simp)
    exact ⟨.obj C hs, .obj (cutF_of h fun _ e => nomatch e) (k.trans h1.symm) (by rw [h2]; exact r2), .obj h1.symm (by rw [h2]; exact l)⟩
  | _, _, .dk h k r => ⟨_, .ref _, .dk⟩
theorem RvA.hide {K : PySem.W.Frag} {F : Hp} : ∀ {vs : List V} {ds : List D}, RvA K F vs ds → ∃ es, RvA K (cutF F) vs es ∧ LkA ds es
  | _, _, .nil => ⟨_, .nil, .nil⟩
  | _, _, .cons h r => by
    obtain ⟨e, h1, l1⟩ := Rv.hide h
    obtain ⟨es, h2, l2⟩ := RvA.hide r
    exact ⟨_, .cons h1 h2, .cons l1 l2⟩
end
/-- F1 laid under F -/
def onF (F F1 : Hp) : Hp := fun a => match F a with
  | some o => some o
  | none => F1 a
theorem onF_l {F F1 : Hp} : Same F (onF F F1) := fun b u e => by
  unfold onF; rw [e]
theorem onF_none {F F1 : Hp} {a : Addr} (h : F a = none) : onF F F1 a = F1 a := by
  unfold onF; rw [h]
def noOwn (env : Env) : Env := env.map fun s => if s.own = true then .un else s
theorem get_noOwn : ∀ {env : Env} {j : Nat}, get (noOwn env) j = if (get env j).own = true then .un else get env j
  | [], _ => rfl
  | _ :: _, 0 => rfl
  | _ :: r, j + 1 => get_noOwn (env := r) (j := j)
theorem noOwn_own {env : Env} {j : Nat} : (get (noOwn env) j).own = false := by
  rw [get_noOwn]
  by_cases h : (get env j).own = true
  · rw [if_pos h]
  · rw [if_neg h]; simpa using h
section
variable {R : Res} {K : PySem.W.Frag} {E : XK}
/-- told = f(x); if test: return; rest; told[0].append(y); told.append(None) -/
def wTold (wf : WF) (R : Res) (u i j : Nat) (wt : WT) (w3 : WS) : WS := fun env D => ∃ d ds0 ds, get env u = .sh d ∧ (∀ e, Lk d e → wf R [e] NoX fun r => r = .nw (.lst ds0 :: ds)) ∧ (i < env.length ∧ ds0.length < sizeLine ∧ ds.length + 1 < sizeLine) ∧
  wt (put env i (.sh (.lst (.lst ds0 :: ds)))) NoX (fun b => b = false) ∧
  ∀ p, w3 (put (noOwn env) i (.sh (.ref p))) { nx := fun env2 => get env2 i = .sh (.ref p) ∧ (∃ z, get env2 j = .sh z) ∧ D.nx (put env2 i .un), rt := fun _ => False, bk := fun _ => False, ct := fun _ => False, xn := NoX }
theorem esw_told {wf : WF} {u i j : Nat} {tt : TT} {wt : WT} {ta t3 : TS} {w3 : WS} (ht : EtW R K E tt wt) (h3 : EsW R K E t3 w3) :
    EsW R K E (tSeq (tAsg (tCall (spV K wf) [] E (tCons (tVar u) tNil)) (gName i)) (tSeq (tIfS tt ta tNext) (tSeq t3 (tSeq (tDrop (tBM K "list" rAppend (tOp (rIxA K) (tVar i) (tC (.int 0))) (tCons (tVar j) tNil))) (tDrop (tBM K "list" rAppend (tVar i) (tCons (tC .non) tNil)))))))
      (wTold wf R u i j wt w3) := by
  intro F0 H0 env σ F H D D' t ws e ⟨d, ds0, ds, hu, hcall, ⟨il, l0, l1⟩, htest, hw3⟩
  have zu := t.sl u
  rw [hu] at zu
  obtain ⟨v, hv, rv⟩ := zu
  obtain ⟨d', rv', lk⟩ := rv.hide
  have okc : Ok R (cutF F) H := ⟨cutF_sub.trans t.ok.ex, t.ok.j, fun a ha => by unfold cutF; rw [t.ok.dis a ha]⟩
  refine ⟨v, hv, R, cutF F, [d'], NoX, _, okc, .cons rv' .nil, wish_no, fun v1 r F1 H1 s1 o1 rr q1 => ?_, hcall d' lk⟩
  subst q1
  obtain ⟨p, xs0, rfl, hp1, hp2, hp3, hp4, hr⟩ := rr
  cases hr with
  | @cons _ xs _ _ r0 rs =>
  cases r0 with
  | @lst q ys _ hF0 rr0 =>
  have hq1 : H1 q = some (.lst ys) := o1.ex _ _ hF0
  have hqA : ¬ R.A q := o1.frz hF0
  have hq : H q = none := by
    cases z : H q with
    | none => rfl
    | some w =>
      cases z2 : cutF F q with
      | none => rw [s1.own q (by rw [z]; simp) z2] at hF0; cases hF0
      | some w2 =>
        have z3 := s1.ex q w2 z2
        rw [z3] at hF0
        cases hF0
        exact absurd z2 cutF_lst
  have hFp : F p = none := t.ok.notF hp1
  have hFq : F q = none := t.ok.notF hq
  have keepF : Same F H1 := fun b w z => s1.keep b w (t.ok.ex b w z) (t.ok.frz z)
  have cutn : ∀ a, F a = none → cutF F a = none := fun a z => by unfold cutF; rw [z]
  have om : Ok R (onF F F1) H1 := by
    refine ⟨fun b w z => ?_, o1.j, fun a ha => by rw [onF_none (t.ok.dis a ha)]; exact o1.dis a ha⟩
    cases z2 : F b with
    | none => rw [onF_none z2] at z; exact o1.ex b w z
    | some w2 => rw [onF_l b w2 z2] at z; cases z; exact keepF b _ z2
  have sm : Stp R F H (onF F F1) H1 := ⟨onF_l, s1.keep, fun a h1 h2 => by rw [onF_none h2]; exact s1.own a h1 (cutn a h2), s1.dom⟩
  have f1 : Same F1 (onF F F1) := fun b w z => by
    cases z2 : F b with
    | none => rw [onF_none z2]; exact z
    | some w2 => rw [onF_l b w2 z2, ← keepF b w2 z2, ← o1.ex b w z]
  have hmp : onF F F1 p = none := by rw [onF_none hFp]; exact hp3
  have s2 := sm.frz (o := .lst (.ref q :: xs)) hp1 hmp
  have o2 := om.freeze hp2 hmp hp4
  have f2 : Same F1 (upd (onF F F1) p (.lst (.ref q :: xs))) := f1.trans (Same.updF hmp)
  have t2 := (t.step s2 o2).setS (i := i) (v := .ref p) (d := .lst (.lst ds0 :: ds)) (.lst upd_same (.cons (.lst (f2 _ _ hF0) (rr0.mono f2)) (rs.mono f2)))
  show tt (σ.set i (some (.ref p))) H1 _
  refine ht F0 H0 _ _ _ H1 NoX _ _ t2 wish_no htest fun b F3 H3 s3 o3 hb => ?_
  subst hb
  have hp3' : H3 p = some (.lst (.ref q :: xs)) := s3.keep _ _ hp2 hp4
  have hq3 : H3 q = some (.lst ys) := s3.keep _ _ hq1 hqA
  have keep3 : ∀ a w, H a = some w → ¬ R.A a → H3 a = some w := fun a w z n => s3.keep a w (s1.keep a w z n) n
  have o4 : Ok R F H3 := ⟨fun b w z => keep3 b w (t.ok.ex b w z) (t.ok.frz z), o3.j, t.ok.dis⟩
  have s4 : Stp R F H F H3 := ⟨.refl _, keep3, fun _ _ h => h, fun a h => s3.dom a (s1.dom a h)⟩
  have t3' : Sta R K F H3 (put (noOwn env) i (.sh (.ref p))) (σ.set i (some (.ref p))) F H3 := by
    have base : Sta R K F H3 (noOwn env) σ F H3 := by
      refine ⟨o4, .refl, by unfold noOwn; rw [List.length_map]; exact t.len, fun k => ?_, fun a b h1 => by rw [noOwn_own] at h1; cases h1⟩
      rw [get_noOwn]
      have zk := t.sl k
      cases hk : get env k <;> rw [hk] at zk <;> first | trivial | exact zk
    exact base.setS (.ref p)
  refine h3 F H3 _ _ F H3 _ _ t3' wish_no ?_ (hw3 p)
  refine ⟨fun env4 σ4 F4 H4 t4 hn => ?_, fun _ _ _ _ _ z => False.elim z, fun _ _ _ _ _ z => False.elim z, fun _ _ _ _ _ _ _ z => False.elim z⟩
  obtain ⟨g1, ⟨z, g2⟩, g3⟩ := hn
  have z1 := t4.sl i
  rw [g1] at z1
  obtain ⟨_, z1, z1'⟩ := z1
  cases z1'
  have z2 := t4.sl j
  rw [g2] at z2
  obtain ⟨vj, z2, rj⟩ := z2
  have s5 := t4.stp
  have hp5 : H4 p = some (.lst (.ref q :: xs)) := s5.keep _ _ hp3' hp4
  have hq5 : H4 q = some (.lst ys) := s5.keep _ _ hq3 hqA
  have hFp5 : F4 p = none := s5.own p (by rw [hp3']; simp) hFp
  have hFq5 : F4 q = none := s5.own q (by rw [hq3]; simp) hFq
  have npq : p ≠ q := fun z => by subst z; rw [hp3] at hF0; cases hF0
  have o6 : Ok R F4 (upd H4 q (.lst (ys ++ [vj]))) := t4.ok.mut hFq5 hqA
  have hp6 : upd H4 q (.lst (ys ++ [vj])) p = some (.lst (.ref q :: xs)) := by rw [upd_ne npq]; exact hp5
  have o7 : Ok R F4 (upd (upd H4 q (.lst (ys ++ [vj]))) p (.lst (.ref q :: xs ++ [.non]))) := o6.mut hFp5 hp4
  refine ⟨.ref p, z1, .inl (.inl ⟨p, _, 0, .ref q, rfl, rfl, SqL.of hp5, by unfold atI ixN; simp, .inl ⟨rfl, ys, SqL.of hq5⟩, vj, z2, q, ys, vj, rfl, rfl, hq5, by rw [rr0.length]; exact l0, ?_⟩)⟩
  refine ⟨.ref p, z1, .inl ⟨rfl, _, SqL.of hp6⟩, p, _, .non, rfl, rfl, hp6, by rw [List.length_cons, rs.length]; exact l1, ?_⟩
  have st := ((t.stp.trans s4).trans s5)
  have h0p : H0 p = none := t.stp.fresh hp1
  have h0q : H0 q = none := t.stp.fresh hq
  refine e.nx (put env4 i .un) σ4 F4 _ ⟨o7, (st.mut h0q).mut h0p, by rw [put_length]; exact t4.len, fun k => ?_, fun a b h1 h2 ee => ?_⟩ g3
  · by_cases c : k = i
    · subst c
      by_cases hl : k < env4.length
      · rw [get_put_same hl]; trivial
      · rw [put_out (Nat.le_of_not_lt hl), get_out (Nat.le_of_not_lt hl)]; trivial
    · rw [get_put_ne c]
      have zk := t4.sl k
      have ne : ∀ a, H3 a = none → upd (upd H4 q (.lst (ys ++ [vj]))) p (.lst (.ref q :: xs ++ [.non])) a = H4 a := fun a ha => by
        rw [upd_ne (fun z => by subst z; rw [hp3'] at ha; cases ha), upd_ne (fun z => by subst z; rw [hq3] at ha; cases ha)]
      have fr : ∀ a, H3 a = none → H0 a = none := fun a ha => (t.stp.trans s4).fresh ha
      cases hk : get env4 k with
      | un => trivial
      | sh d => rw [hk] at zk; exact zk
      | ow ds => rw [hk] at zk; obtain ⟨a, ws, h1, h2, h3, h4, h5, h6⟩ := zk; exact ⟨a, ws, h1, fr a h2, h3, h4, by rw [ne a h2]; exact h5, h6⟩
      | od gs => rw [hk] at zk; obtain ⟨a, ws, h1, h2, h3, h4, h5, h6⟩ := zk; exact ⟨a, ws, h1, fr a h2, h3, h4, by rw [ne a h2]; exact h5, h6⟩
      | oi C a gs => rw [hk] at zk; obtain ⟨a, dx, ws, h1, h2, h3, h4, h5, h6⟩ := zk; exact ⟨a, dx, ws, h1, fr a h2, h3, h4, by rw [ne a h2]; exact h5, h6⟩
  · have g : ∀ k, (get (put env4 i .un) k).own = true → (get env4 k).own = true := fun k h => by
      by_cases c : k = i
      · subst c
        by_cases hl : k < env4.length
        · rw [get_put_same hl] at h; cases h
        · rw [put_out (Nat.le_of_not_lt hl)] at h; exact h
      · rw [get_put_ne c] at h; exact h
    exact t4.inj a b (g a h1) (g b h2) ee
end
section
variable {X : Cx} {R : Res} {E : XK} {st1 st3 st4 st5 : Stmt} {c : Expr} {bd : List Stmt} {pos : Pos} {tt : TT} {wt : WT} {ta t3 : TS} {w1 wa w3 w5 : WS} {wf : WF} {u i j : Nat}
theorem b_told (h1 : VS X R E st1 (tAsg (tCall (spV X.K wf) [] E (tCons (tVar u) tNil)) (gName i)) w1) (hc : VT X R E c tt wt) (ha : VB X R E bd ta wa) (h3 : VS X R E st3 t3 w3)
    (h4 : PS X st4 (tDrop (tBM X.K "list" rAppend (tOp (rIxA X.K) (tVar i) (tC (.int 0))) (tCons (tVar j) tNil)))) (h5 : VS X R E st5 (tDrop (tBM X.K "list" rAppend (tVar i) (tCons (tC .non) tNil))) w5) :
    VB X R E [st1, .If c bd [] pos, st3, st4, st5] (tSeq (tAsg (tCall (spV X.K wf) [] E (tCons (tVar u) tNil)) (gName i)) (tSeq (tIfS tt ta tNext) (tSeq t3 (tSeq (tDrop (tBM X.K "list" rAppend (tOp (rIxA X.K) (tVar i) (tC (.int 0))) (tCons (tVar j) tNil))) (tDrop (tBM X.K "list" rAppend (tVar i) (tCons (tC .non) tNil)))))))
      (wTold wf R u i j wt w3) := ⟨pss_cons h1.p (pss_cons (ps_if hc.p ha.p pss_nil) (pss_cons h3.p (pss_cons h4 (pss_one h5.p)))), esw_told hc.w h3.w⟩
end
end VH

set_option Elab.async false
set_option maxRecDepth 100000
set_option linter.all false
set_option maxHeartbeats 2000000
/-! data: texts of short lists of small numbers, comparisons of lists of numbers -/
namespace VH
open PySem L2
theorem log_small {a : Int} (ha : a.natAbs < 10 ^ 12) : a.natAbs.log2 < 41 := by
  by_cases z : a.natAbs = 0
  · rw [z]; decide
  · exact (Nat.log2_lt z).mpr (Nat.lt_of_lt_of_le ha (by decide))
/-- None or a small number -/
def smI (x : PyData) : Prop := x = .none ∨ ∃ i : Int, x = .int i ∧ i.natAbs < 10 ^ 12
theorem smI_one {x : PyData} (h : smI x) : x.showable = true ∧ x.depth = 0 ∧ x.leavesShort 13 = true ∧ x.weight ≤ 41 := by
  rcases h with rfl | ⟨i, rfl, h⟩
  · exact ⟨rfl, rfl, rfl, by simp [PyData.weight]⟩
  · have l := log_small h
    refine ⟨by simp [PyData.showable]; omega, rfl, by simp [PyData.leavesShort, PyData.shown_int_le h], ?_⟩
    simp [PyData.weight]
    split <;> omega
theorem smI_all : ∀ {xs : List PyData}, (∀ x ∈ xs, smI x) → PyData.showableAll xs = true ∧ PyData.depthAll xs = 0 ∧ PyData.leavesShortAll 13 xs = true ∧ PyData.weightAll xs ≤ 42 * xs.length
  | [], _ => ⟨rfl, rfl, rfl, by simp [PyData.weightAll]⟩
  | x :: xs, h => by
    obtain ⟨a1, a2, a3, a4⟩ := smI_one (h x (by simp))
    obtain ⟨b1, b2, b3, b4⟩ := smI_all (xs := xs) fun y hy => h y (by simp [hy])
    refine ⟨by simp [PyData.showableAll, a1, b1], by simp [PyData.depthAll, a2, b2], by simp [PyData.leavesShortAll, a3, b3], ?_⟩
    simp [PyData.weightAll]
    omega
theorem rok_flat {xs : List PyData} (h : ∀ x ∈ xs, smI x) (hl : xs.length ≤ 1000) : ReprOk (.list xs) := by
  obtain ⟨b1, b2, b3, b4⟩ := smI_all h
  exact ⟨by simp [PyData.showable, b1], by simp [PyData.depth, b2], PyData.shown_fits (B := 13) (by decide) (by decide) (by simp [PyData.leavesShort, b3]) (by simp [PyData.weight]; omega)⟩
/-- None, a small number, a short list of these -/
def smL (x : PyData) : Prop := smI x ∨ ∃ xs, x = .list xs ∧ (∀ y ∈ xs, smI y) ∧ xs.length ≤ 1000
theorem smL_one {x : PyData} (h : smL x) : x.showable = true ∧ x.depth ≤ 1 ∧ x.leavesShort 13 = true ∧ x.weight ≤ 42000 := by
  rcases h with h | ⟨xs, rfl, h, hl⟩
  · obtain ⟨a1, a2, a3, a4⟩ := smI_one h
    exact ⟨a1, by omega, a3, by omega⟩
  · obtain ⟨b1, b2, b3, b4⟩ := smI_all h
    exact ⟨by simp [PyData.showable, b1], by simp [PyData.depth, b2], by simp [PyData.leavesShort, b3], by simp [PyData.weight]; omega⟩
theorem smL_all : ∀ {xs : List PyData}, (∀ x ∈ xs, smL x) → PyData.showableAll xs = true ∧ PyData.depthAll xs ≤ 1 ∧ PyData.leavesShortAll 13 xs = true ∧ PyData.weightAll xs ≤ 42001 * xs.length
  | [], _ => ⟨rfl, by simp [PyData.depthAll], rfl, by simp [PyData.weightAll]⟩
  | x :: xs, h => by
    obtain ⟨a1, a2, a3, a4⟩ := smL_one (h x (by simp))
    obtain ⟨b1, b2, b3, b4⟩ := smL_all (xs := xs) fun y hy => h y (by simp [hy])
    refine ⟨by simp [PyData.showableAll, a1, b1], by simp [PyData.depthAll]; omega, by simp [PyData.leavesShortAll, a3, b3], ?_⟩
    simp [PyData.weightAll]
    omega
theorem rok_deep {xs : List PyData} (h : ∀ x ∈ xs, smL x) (hl : xs.length ≤ 20) : ReprOk (.list xs) := by
  obtain ⟨b1, b2, b3, b4⟩ := smL_all h
  exact ⟨by simp [PyData.showable, b1], by simp [PyData.depth]; omega, PyData.shown_fits (B := 13) (by decide) (by decide) (by simp [PyData.leavesShort, b3]) (by simp [PyData.weight]; omega)⟩
theorem eqv_ints : ∀ {l m : List Int}, PyData.eqvAll (l.map PyData.int) (m.map PyData.int) = decide (l = m)
  | [], [] => by simp [PyData.eqvAll]
  | [], _ :: _ => by simp [PyData.eqvAll]
  | _ :: _, [] => by simp [PyData.eqvAll]
  | a :: l, b :: m => by
    simp only [List.map_cons, PyData.eqvAll, PyData.eqv, eqv_ints (l := l) (m := m)]
    by_cases h : a = b <;> by_cases h' : l = m <;> simp [h, h']
theorem dataAll_ints : ∀ {l : List Int}, D.dataAll (l.map D.int) = some (l.map PyData.int)
  | [] => rfl
  | i :: l => by
    show (match D.data (.int i), D.dataAll (l.map D.int) with | some x, some xs => some (x :: xs) | _, _ => none) = _
    rw [dataAll_ints]
    rfl
theorem dataAll_map {α : Type} {f : α → D} {g : α → PyData} (h : ∀ a, D.data (f a) = some (g a)) : ∀ {l : List α}, D.dataAll (l.map f) = some (l.map g)
  | [] => rfl
  | a :: l => by
    show (match D.data (f a), D.dataAll (l.map f) with | some x, some xs => some (x :: xs) | _, _ => none) = _
    rw [dataAll_map h, h]
    rfl
theorem shaped_flat {xs : List PyData} (h : ∀ x ∈ xs, SeqAt.shaped x = true ∧ x.depth ≤ 3) : SeqAt.shaped (.list xs) = true := by
  have : ∀ {xs : List PyData}, (∀ x ∈ xs, SeqAt.shaped x = true ∧ x.depth ≤ 3) → PyData.canLayAll0 xs = true ∧ PyData.depthAll xs ≤ 3 := by
    intro xs
    induction xs with
    | nil => exact fun _ => ⟨rfl, by simp [PyData.depthAll]⟩
    | cons x xs ih =>
      intro h
      obtain ⟨a, b⟩ := h x (by simp)
      obtain ⟨c, d⟩ := ih fun y hy => h y (by simp [hy])
      simp [SeqAt.shaped] at a
      exact ⟨by simp [PyData.canLayAll0, a.1, c], by simp [PyData.depthAll]; omega⟩
  obtain ⟨a, b⟩ := this h
  simp [SeqAt.shaped, PyData.canLay0, PyData.depth, a]
  omega
end VH

set_option Elab.async false
set_option maxRecDepth 100000
set_option linter.all false
set_option maxHeartbeats 4000000
/-! type(x), is of types, sorted(dict of texts), properties, repr of more -/
namespace VH
open PySem L2
open PyProof.Rows (sortedS)
section
variable {R : Res} {K : PySem.W.Frag} {E : XK}
def gTyp : D → (Rs → Prop) → Prop
  | .non, Q => Q (.sh (.ty "NoneType"))
  | .bl _, Q => Q (.sh (.ty "bool"))
  | .int _, Q => Q (.sh (.ty "int"))
  | .str _, Q => Q (.sh (.ty "str"))
  | .lst _, Q => Q (.sh (.ty "list"))
  | .tup _, Q => Q (.sh (.ty "tuple"))
  | _, _ => False
theorem unw_typ : UnW R K (fun x => rTyp K [x]) gTyp := by
  intro F H x a Q Q' o ha h k
  unfold gTyp at h
  split at h
  · rw [top_non ha]; exact ⟨_, _, rfl, .non, now o k (.ty _) h⟩
  · rw [top_bl ha]; exact ⟨_, _, rfl, .bl _, now o k (.ty _) h⟩
  · rw [top_int ha]; exact ⟨_, _, rfl, .int _, now o k (.ty _) h⟩
  · rw [top_str ha]; exact ⟨_, _, rfl, .str _, now o k (.ty _) h⟩
  · obtain ⟨p, xs, rfl, hx, _, _⟩ := top_lst o ha
    exact ⟨_, _, rfl, .lst (SqL.of hx), now o k (.ty _) h⟩
  · obtain ⟨p, xs, rfl, hx, _⟩ := top_tup o ha
    exact ⟨_, _, rfl, .tup hx, now o k (.ty _) h⟩
  · exact h.elim
def gIsT (neg : Bool) : D → D → (Rs → Prop) → Prop
  | .ty a, .ty b, Q => Q (.sh (.bl (if neg then !decide (a = b) else decide (a = b))))
  | _, _, _ => False
theorem opw_isT : OpW R K (fun x y H Q => ∃ a b, x = .ty a ∧ y = .ty b ∧ Q (.bl (decide (a = b))) H) (gIsT false) := by
  intro F H x y a b Q Q' o ha hb h k
  unfold gIsT at h
  split at h
  · rw [top_ty ha, top_ty hb]; exact ⟨_, _, rfl, rfl, now o k (.bl _) h⟩
  · exact h.elim
theorem opw_isNotT : OpW R K rNT (gIsT true) := by
  intro F H x y a b Q Q' o ha hb h k
  unfold gIsT at h
  split at h
  · rw [top_ty ha, top_ty hb]; exact ⟨_, _, rfl, rfl, now o k (.bl _) h⟩
  · exact h.elim
def keyStrs : List (Key × D) → Option (List Str)
  | [] => some []
  | (.inr i, _) :: r => (keyStrs r).map (i :: ·)
  | _ => none
theorem keyStrs_of : ∀ {gs : List (Key × D)} {ns : List Str}, keyStrs gs = some ns → gs.map (·.1) = ns.map Sum.inr
  | [], ns, h => by cases h; rfl
  | (.inr i, d) :: r, ns, h => by
    obtain ⟨ms, h1, rfl⟩ := Option.map_eq_some_iff.mp (show (keyStrs r).map (i :: ·) = some ns from h)
    rw [List.map_cons, List.map_cons, keyStrs_of h1]
def gSortedS : D → (Rs → Prop) → Prop
  | .dk kvs, Q => gOpt (keyStrs kvs) fun ks => ks.length < 64 ∧ ∀ ys : List Str, ys.Perm ks → Q (.nw (ys.map D.str))
  | _, _ => False
theorem rva_strs {F : Hp} : ∀ (ys : List Str), RvA K F (ys.map V.str) (ys.map D.str)
  | [] => .nil
  | y :: ys => .cons (.str y) (rva_strs ys)
theorem unw_sortedS : UnW R K (fun x H Q => ∃ (a : Addr) (kvs : List (Key × V)) (ks : List Str), [x] = [V.ref a] ∧ Rd H a (.dK kvs) ∧ kvs.map (·.1) = ks.map Sum.inr ∧ ks.length < 64 ∧
    ∀ (ys : List Str) (p : Addr), ys.Perm ks → sortedS ys = true → H p = none → Q (.ref p) (upd H p (.lst (ys.map V.str)))) gSortedS := by
  intro F H x a Q Q' o ha h k
  cases a <;> first | exact False.elim h | skip
  obtain ⟨ks, h1, h2, h3⟩ := gOpt_ex h
  obtain ⟨p, fs, rfl, hp, na, e, r⟩ := top_dk o ha
  exact ⟨p, fs, ks, rfl, hp, e.trans (keyStrs_of h1), h2, fun ys l a1 _ hl => newL o k (rva_strs ys) (h3 ys a1) hl⟩
end
theorem c_isT {X : Cx} {R : Res} : CmpV X R .Is (fun x y H Q => ∃ a b, x = .ty a ∧ y = .ty b ∧ Q (.bl (decide (a = b))) H) (gIsT false) := ⟨op_isTyB, opw_isT⟩
theorem c_isNotT {X : Cx} {R : Res} : CmpV X R .IsNot rNT (gIsT true) := ⟨op_notTyB, opw_isNotT⟩

/-! ### properties -/
structure PropG (K : PySem.W.Frag) (C : Addr) (m : Str) (f : Addr) (fd : FuncData) (ps : List Str) : Prop where
  cl : Cls K C
  pr : ∃ p, PropOf K C m p f
  bd : Binds K fd ps []
section
variable {X : Cx} {R : Res} {k : Nat} {f C : Addr} {fd : FuncData} {ps : List Str} {sp : Sp} {E : XK} {m : Str} {pos : Pos} {e : Expr} {ta : TE} {wa : WE} {wf : WF}
theorem getpropG {pins : List (Addr × Obj)} {σ : L2.St} {H : Hp} {s : Shared} {Q : VK} {b : Bool} {E' : Value → Shared → Prop} {a dx : Addr} {fs : List (Str × V)} (I : Inv X pins σ H s) (ea : H a = some (.ins C dx fs)) (M : PropG X.K C m f fd ps)
    (F : FnG X.prog X.w X.K X.mg X.base k f fd ps sp) (hg : X.A.guards = some []) (hr : Room (k + 1) X.A) (hx : Passes (L2.CX X.prog X.w) X.nox E) (h : sp [.ref a] H Q E) :
    wpAny (model X.prog X.w) X.A (getAttr (.ref a) m b) (EP X pins σ Q) E' s := by
  obtain ⟨c, ⟨p, hp⟩, hb⟩ := M
  obtain ⟨mA, O, _, _, _, _⟩ := ins_get I.hok ea
  obtain ⟨od, J, _⟩ := O.look
  obtain ⟨rest, hrec⟩ := hp.rec_
  have I1 := I.tok (s.toks + 1)
  have hl : ([Value.ref a] ++ ([] : List Value)).length = ps.length := by
    rw [← F.len _ _ _ _ h]
    rfl
  have hc : (PySem.W.clsIn X.K C).isSome = true := by
    obtain ⟨cd, hc, _⟩ := PySem.W.any_some c.hd
    rw [hc]
    rfl
  have step : codeAny (model X.prog X.w) X.A.in1 (.call (.ref f) ⟨[.ref a], []⟩) (CR (L2.CX X.prog X.w) X.stack X.prog X.w H { s with toks := s.toks + 1 } Q E) { s with toks := s.toks + 1 } :=
    F.run X.A.in1 X.stack { s with toks := s.toks + 1 } H ⟨[.ref a], []⟩ [.ref a] [.ref a] Q E hg hr.in1 I1.env0.in1 (hb _ [.ref a] I1.kIn hl) (.cons rfl .nil) h
  refine PySem.W.get_bind I.kIn J (PySem.W.plainGet_of (c.get m)).1 (PySem.W.findObj_data hc hp.at_ hp.get hp.tak) (PySem.W.plainGet_of (c.get m)).2 (wpAny_call (PySem.W.prop_get (s := { s with toks := s.toks + 1 }) I.kIn hrec (codeAny_mono step fun r s' hq => ?_)))
  match r, hq with
  | .error er, hq => exact False.elim (hx pins σ H { s with toks := s.toks + 1 } er s' (I1.wish _) hq)
  | .ok (.ret u), hq =>
    obtain ⟨v, H', I3, rv, q3⟩ := I1.after hq
    show wpAny _ _ (handedOut u) _ _ _
    rw [PySem.W.handedOut_of (handed_of rv)]
    exact wpAny_pure ⟨v, H', I3, rv, q3⟩
theorem pe_propG (he : PE X e ta) (M : PropG X.K C m f fd ps) (F : FnG X.prog X.w X.K X.mg X.base k f fd ps sp) (hg : X.A.guards = some []) (hr : Room (k + 1) X.A) (hx : Passes (L2.CX X.prog X.w) X.nox E)
    (hab : attributeBase e m X.env (eval e X.env) = eval e X.env) : PE X (.Attribute e m pos) (tProp C sp [] E ta) := by
  refine ⟨fun pins s σ H Q I h => ?_⟩
  refine attr_of hab (thn (he.run pins s σ H _ I h) fun u s1 ⟨x, H1, I1, rx, a, dx, fs, ex, ea, q⟩ => ?_)
  subst ex
  obtain rfl : u = Value.ref a := rx
  exact getpropG I1 ea M F hg hr hx q
/-- e.m, a property: what the getter tells of the object -/
def wProp (Cs : List Addr) (wf : List D → (Exn → Prop) → (Rs → Prop) → Prop) (wa : WE) : WE := fun env Xn Q => wa env Xn fun r => gObj r fun C gs => C ∈ Cs ∧ wf [.obj C gs] NoX Q
theorem evw_prop {E' : XK} {C : Addr} (h : EvW R X.K E' ta wa) : EvW R X.K E' (tProp C (spV X.K wf) [] E ta) (wProp [C] (wf R) wa) := by
  intro F0 H0 env σ F H Xn Q Q' t ws q k
  refine h F0 H0 env σ F H _ _ _ t ws q fun v r F1 H1 s1 o1 rr q1 => ?_
  unfold gObj at q1
  split at q1
  · rename_i C' gs
    obtain ⟨hC, q1⟩ := q1
    have hC := List.mem_singleton.mp hC
    subst hC
    obtain ⟨p, dx, fs, rfl, hF, hH, ek, r⟩ := top_obj o1 (.inl rr)
    refine ⟨p, dx, fs, rfl, hH, R, F1, [.obj C' gs], NoX, Q', o1, .cons rr .nil, wish_no, fun v r2 F2 H2 s2 o2 rr2 q2 => ?_, q1⟩
    exact k v r2 F2 H2 (s1.trans s2) o2 (rr2.back s1) q2
  · exact q1.elim
theorem v_prop (M : PropG X.K C m f fd ps) (F : FnG X.prog X.w X.K X.mg X.base k f fd ps (spV X.K wf)) (hg : X.A.guards = some []) (hr : Room (k + 1) X.A) (ha : VE X R E e ta wa)
    (hx : Passes (L2.CX X.prog X.w) X.nox E0 := by exact passN) (hab : attributeBase e m X.env (eval e X.env) = eval e X.env := by rfl) :
    VE X R E (.Attribute e m pos) (tProp C (spV X.K wf) [] E0 ta) (wProp [C] (wf R) wa) := ⟨pe_propG ha.p M F hg hr hx hab, evw_prop ha.w⟩
end
end VH

set_option Elab.async false
set_option maxRecDepth 100000
set_option linter.all false
/-! len(set(xs)) of a list of texts, any of them alike or not -/
namespace VHS
open PySem PySem.Spec PyProof.Rows
/-- how many different ones the first i of xs are -/
def dif (xs : List Str) : Nat → Nat
  | 0 => 0
  | i + 1 => if (xs.take i).any (· == xs.getD i Str.empty) then dif xs i else dif xs i + 1
theorem dif_le (xs : List Str) : ∀ i, dif xs i ≤ i
  | 0 => Nat.le_refl _
  | i + 1 => by
    have := dif_le xs i
    unfold dif
    split <;> omega
theorem dif_nodup {xs : List Str} (h : xs.Nodup) : ∀ i, i ≤ xs.length → dif xs i = i
  | 0, _ => rfl
  | i + 1, hi => by
    have hl : i < xs.length := hi
    have no : (xs.take i).any (· == xs.getD i Str.empty) = false := by
      rw [List.any_eq_false]
      intro y hy e
      have e := eq_of_beq e
      obtain ⟨j, hj⟩ := List.getElem?_of_mem hy
      rw [List.getElem?_take] at hj
      by_cases c : j < i
      · rw [if_pos c] at hj
        obtain ⟨jl, ej⟩ := List.getElem?_eq_some_iff.mp hj
        rw [List.getD_eq_getElem?_getD, List.getElem?_eq_getElem hl] at e
        exact List.pairwise_iff_getElem.mp h j i jl hl c (ej.trans e)
      · rw [if_neg c] at hj; cases hj
    unfold dif
    rw [no, dif_nodup h i (by omega)]
    rfl
section
variable {prog : Program} {w : World} {A : Around} {R : Result → Shared → Prop} {I : Addr} {fp wr : List Addr} {G : Array GenState → Array GenState → Prop} {n : Nat} {P : Nat → Value → Prop} {St : Nat → Shared → Prop}
theorem upd_loop (W : WalksS prog w A.in1 I fp wr G n P St) (S : Addr) (hSf : S ∉ fp) (xs : List Str) (hsz : xs.length = n) (hb : n + 1 < scanBound) (hval : ∀ i v, P i v → ∃ t, v = .str (xs.getD i Str.empty) t) :
    ∀ (k i : Nat) (s : Shared), n - i = k → i ≤ n → St i s → s.heap.SetOf (PySem.strKind prog w) S (fun k' => (xs.take i).any (· == k')) (dif xs i) →
      (∀ s', Moved (S :: wr) G s s' → s'.heap.SetOf (PySem.strKind prog w) S (fun k' => (xs.take n).any (· == k')) (dif xs n) → R (.ok (.ret .none)) s') →
      codeAny (model prog w) A (.builtin "set.update.loop" ⟨[.ref S, .ref I], []⟩) R s := by
  have away : S ∉ wr := fun h => hSf (W.sub _ h)
  have more : ∀ b ∈ wr, b ∈ S :: wr := fun b hb => List.mem_cons_of_mem _ hb
  have kept : ∀ {s s' : Shared} {f : Str → Bool} {m : Nat}, Moved wr G s s' → s.heap.SetOf (PySem.strKind prog w) S f m → s'.heap.SetOf (PySem.strKind prog w) S f m := fun hm ⟨o, es, ep, t, ho, r⟩ => ⟨o, es, ep, t, hm.heap S _ away ho, r⟩
  intro k
  induction k with
  | zero =>
    intro i s hk hi hst hS hR
    obtain rfl : i = n := by omega
    refine codeAny_builtin PyProof.Rows.F.entry_set_update_loop ?_
    rw [Around.under_plainId PyProof.Rows.F.plain_set_update_loop _]
    exact wpAny_bind (W.done s _ _ hst fun s' hm => wpAny_pure (hR s' (hm.mono more) (kept hm hS)))
  | succ k ih =>
    intro i s hk hi hst hS hR
    have hlt : i < n := by omega
    refine codeAny_builtin PyProof.Rows.F.entry_set_update_loop ?_
    rw [Around.under_plainId PyProof.Rows.F.plain_set_update_loop _]
    refine wpAny_bind (W.item i s _ _ hlt hst fun v s' hP hst' hm => ?_)
    obtain ⟨t, rfl⟩ := hval i v hP
    have dl := dif_le xs i
    have hS' := kept hm hS
    refine wpAny_bind (wpAny_holding ?_)
    unfold setAdd
    refine wpAny_holding (wpAny_bind ((PySem.strKind prog w).pyHash (k := xs.getD i Str.empty) (strKind_is _ _ _ _) ?_))
    refine wpAny_setAddHashed_of (knd := PySem.strKind prog w) (s := { s' with toks := s'.toks + 1 }) (strKind_is _ _ _ _) rfl hS' (by omega) fun h' hsb hS2 => ?_
    have hx : xs[i]? = some (xs.getD i Str.empty) := by
      rw [List.getD_eq_getElem?_getD, List.getElem?_eq_getElem (by omega)]
      rfl
    have tk : xs.take (i + 1) = xs.take i ++ [xs.getD i Str.empty] := by
      rw [List.take_add_one, hx]
      rfl
    have next : h'.SetOf (PySem.strKind prog w) S (fun k' => (xs.take (i + 1)).any (· == k')) (dif xs (i + 1)) := by
      refine SetOf_congr hS2 (fun k' => ?_) ?_
      · rw [tk, List.any_append]
        congr 1
        show decide (k' = _) = ([xs.getD i Str.empty].any (· == k'))
        simp only [List.any_cons, List.any_nil, Bool.or_false]
        by_cases e : k' = xs.getD i Str.empty
        · rw [e]; simp
        · rw [decide_eq_false e]
          exact (beq_eq_false_iff_ne.mpr fun z => e z.symm).symm
      · show (if (xs.take i).any (· == xs.getD i Str.empty) = true then dif xs i else dif xs i + 1) = dif xs (i + 1)
        rfl
    refine wpAny_pure ⟨plainId_quiet PyProof.Rows.F.plain_set_update_loop _, ih (i + 1) _ (by omega) hlt (W.frame _ s' _ _ hst' (Nat.le_succ _) fun b hb o e => (hsb.2 b fun z => hSf (z ▸ hb)).trans e) next fun s'' hm'' hS'' => ?_⟩
    exact hR s'' (Moved.trans W.gtrans ((hm.mono more).then_heap (Nat.le_succ _) fun b o hb e => (hsb.2 b fun z => hb (z ▸ List.mem_cons_self)).trans e) hm'') hS''
end
section
variable {prog : Program} {w : World} {A : Around} {E : Value → Shared → Prop} {s : Shared}
set_option maxHeartbeats 3200000 in
/-- set(xs), xs a list of texts -/
theorem set_texts {l : Addr} {items : Array Value} {xs : List Str} {Q : Value → Shared → Prop} (hh : A.handled = none) (hl : s.heap.IsList l items) (hi : PyProof.Rows.StrsAre items.toList xs) (hb : xs.length + 1 < scanBound)
    (h : ∀ (h' : Heap) (tk : Nat), h'.SetOf (PySem.strKind prog w) s.heap.objs.size (fun k' => (xs.take items.size).any (· == k')) (dif xs items.size) →
      (∀ b o, b < s.heap.objs.size → s.heap.get? b = some o → h'.get? b = some o) → Q (.ref s.heap.objs.size) { s with heap := h', toks := tk }) :
    wpAny (model prog w) A (call (.type "set") [.ref l]) Q E s := by
  obtain ⟨c, tl, hmro⟩ := PySem.F.called_set.mro
  have hmade := PySem.F.called_set.made
  have hsub := PySem.F.called_set.sub
  refine wpAny_call (codeAny_of_tree ?_)
  show wpAny _ _ (callAny (.type "set") _) _ _ _
  refine wpAny_pure ⟨Code.quiet_builtin _ (by decide +kernel), codeAny_builtin PySem.F.entry_type_call ?_⟩
  rw [Around.under_plain (weight_type_call_type "set" [.ref l] []) rfl]
  have h1 := PySem.F.called_set.notType
  have h2 := PySem.F.called_set.canCreate
  have hct := PySem.F.typeCall_set_1 (.ref l)
  repeat (any_goals (first | assumption | wp_step))
  let emptyO : Bool → Obj := fun led => { cls := .type "set", dict := none, data := .set #[] 0 (.fresh 0 0 led) }
  refine codeAny_mono (code_set_new_1 (.ref l) (E := E) (Q₁ := fun obj s₁ => ∃ led : Bool, obj = .ref s.heap.objs.size ∧ s₁ = { s with heap := s.heap.push (emptyO led) }) fun led => ⟨led, rfl, rfl⟩) fun r s₁ hr => ?_
  match r, hr with
  | .error e, hr => exact hr
  | .ok (.ret obj), hr =>
    obtain ⟨led, rfl, rfl⟩ := hr
    have hS : (s.heap.push (emptyO led)).get? s.heap.objs.size = some (emptyO led) := Heap.get?_push_size _ rfl
    have hT : Shared.TypeIs { s with heap := s.heap.push (emptyO led) } (.ref s.heap.objs.size) "set" := ⟨_, hS, rfl⟩
    have hli := PySem.F.called_set.init.lookup
    have hbi := PySem.F.called_set.init.bind (.ref s.heap.objs.size)
    repeat (any_goals (first | assumption | wp_step))
    refine codeAny_mono (codeAny_call_builtin (R := wants (fun r s₂ => r = .none ∧ ∃ h' tk, s₂ = { s with heap := h', toks := tk } ∧
        h'.SetOf (PySem.strKind prog w) s.heap.objs.size (fun k' => (xs.take items.size).any (· == k')) (dif xs items.size) ∧
        (∀ b o, b < s.heap.objs.size → s.heap.get? b = some o → h'.get? b = some o)) E) PySem.F.called_set.init.plain PySem.F.entry_set_init (check_set_init_1 hT ?_)) fun r₂ s₂ hr₂ => ?_
    · obtain ⟨ol, hol, hcl, nl, hdl⟩ := hl
      obtain ⟨ocls, odict, odata, oslots⟩ := ol
      simp only at hcl hdl
      subst hcl; subst hdl
      have hol' : (s.heap.push (emptyO led)).get? l = some { cls := .type "list", dict := odict, data := .seq items nl, slots := oslots } := Heap.get?_push_of_some _ hol
      have hsls := PySem.F.sub_list_set
      have hslf := PySem.F.sub_list_frozenset
      have hne : (Value.type "list" == Value.type "dict") = false := by decide
      have hl1 : (s.heap.push (emptyO led)).IsList l items := ⟨_, hol', rfl, nl, rfl⟩
      unfold Builtin.«set.__init__» noKeywords Builtin.Frozenset.updateFrom
      generalize hPI : pyIter = PI
      wp_walk
      subst hPI
      refine wpAny_pyIter_list hl1 (wpAny_bind (wpAny_runValue ?_))
      have hlS : l < s.heap.objs.size := Heap.lt_size hol
      have hsz1 : (s.heap.push (emptyO led)).objs.size = s.heap.objs.size + 1 := Heap.size_push _ _
      have hneI : l ≠ (s.heap.push (emptyO led)).objs.size := by rw [hsz1]; exact Nat.ne_of_lt (Nat.lt_succ_of_lt hlS)
      have hSf : s.heap.objs.size ∉ [(s.heap.push (emptyO led)).objs.size, l] := by
        rw [hsz1]
        simp only [List.mem_cons, List.not_mem_nil, or_false, not_or]
        exact ⟨Nat.ne_of_lt (Nat.lt_succ_self _), Nat.ne_of_gt hlS⟩
      have hsz : xs.length = items.size := by rw [← StrsAre.len_eq hi, Array.length_toList]
      have hval : ∀ (i : Nat) (v : Value), items[i]? = some v → ∃ t, v = .str (xs.getD i Str.empty) t := fun i v hv => SS.strs_at hi i v (by rw [Array.getElem?_toList]; exact hv)
      refine upd_loop ((Walks.list (show A.in1.in1.in1.handled = none by simp [hh]) _ l hneI items).toS) s.heap.objs.size hSf xs hsz (by rw [← hsz]; exact hb) hval (items.size - 0) 0 _ (by omega) (Nat.zero_le _)
        ⟨⟨_, Heap.get?_push_size _ rfl, rfl, rfl⟩, (hl1.push _)⟩ ?hS0 ?hR
      case hS0 =>
        exact PyProof.Rows.SetOf_congr ((PyProof.Rows.setObjOf_fresh (knd := PySem.strKind prog w) led).setOf (Heap.get?_push_of_some _ hS) (by unfold scanBound; omega)) (fun _ => rfl) rfl
      case hR =>
        intro s' hm hS'
        obtain ⟨h', g', d', tk', os'⟩ := s'
        obtain rfl : g' = s.gens := hm.gens
        obtain rfl : d' = s.drawn := hm.drawn
        obtain rfl : os' = s.os := hm.os
        refine wpAny_pure (wpAny_pure ⟨rfl, h', tk', rfl, hS', fun b o hb e => ?_⟩)
        refine hm.heap b o ?_ (Heap.get?_push_of_some _ (Heap.get?_push_of_some _ e))
        simp only [List.mem_cons, List.not_mem_nil, or_false, not_or]
        exact ⟨Nat.ne_of_lt hb, by rw [hsz1]; exact Nat.ne_of_lt (Nat.lt_succ_of_lt hb)⟩
    · match r₂, hr₂ with
      | .error e, hr₂ => exact hr₂
      | .ok (.ret r), hr₂ =>
        obtain ⟨rfl, h', tk, rfl, hS', hk'⟩ := hr₂
        repeat (any_goals (first | assumption | wp_step))
        exact h _ _ hS' hk'
end
end VHS

set_option Elab.async false
set_option maxRecDepth 100000
set_option linter.all false
set_option maxHeartbeats 4000000
/-! len(set(texts)), repr of numbers and None, raise and try -/
namespace VH
open PySem L2 PyProof.Rows
/-! ### len(set(xs)) -/
def tLenT (K : PySem.W.Frag) (ta : TE) : TE := fun σ H Q => ta σ H fun x H1 => ∃ (l : Addr) (xs : List Str), x = .ref l ∧ SqL K H1 l (xs.map V.str) ∧ xs.length ≤ 4000 ∧ Q (.int (VHS.dif xs xs.length : Nat)) H1
theorem pe_lenT {X : Cx} {a : Expr} {ta : TE} {p p2 q pos : Pos} (hc : X.calm = true) (hm : X.mg "len" = none) (hm2 : X.mg "set" = none) (ha : PE X a ta) (hg : Gl X "len") (hg2 : Gl X "set")
    (na : starEach [a] X.env = (false, eval a X.env) :: starEach [] X.env) : PE X (.Call (.Name "len" p) [.Call (.Name "set" p2) [a] [] q] [] pos) (tLenT X.K ta) := by
  refine ⟨fun pins s σ H Q I h => ?_⟩
  refine Call_ (ld_blt I hg hm PySem.boot_len ?_)
  refine PyProof.Rows.callWith_builtin1 (PyProof.Rows.args_cons ?_ rfl) rfl rfl
  refine Call_ (ld_blt I hg2 hm2 boot_set ?_)
  refine PyProof.Rows.callWith_type1 (PyProof.Rows.args_cons (thn (ha.run pins s σ H _ I h) fun v s1 ⟨x, H1, I1, r1, q1⟩ => PyProof.Rows.args_nil ?_) na) na rfl
  obtain ⟨l, xs, rfl, hq, hl, q1⟩ := q1
  cases r1
  obtain ⟨its, r, pl, hz⟩ := I1.list hq
  have hlen : its.toArray.size = xs.length := by rw [List.size_toArray, ← r.length, List.length_map]
  refine VHS.set_texts (I1.ok.hd hc) pl.isList (by simpa using strsAre_of r) (by unfold scanBound; omega) fun h' tk hS hk => ?_
  refine PyProof.Rows.args_nil ?_
  rw [hlen] at hS
  obtain ⟨o, es, ep, t, ho, hex, hd, _, _, _, hf, hn⟩ := hS
  have I2 : Inv X pins σ H1 { s1 with heap := h', toks := tk } := I1.kept fun b o e => hk b o (Heap.lt_size e) e
  have := VHS.dif_le xs xs.length
  refine call_len_set ho hex hd hf (by rw [hn]; unfold scanBound at *; omega) ⟨.int (VHS.dif xs xs.length : Nat), H1, I2.tok _, ⟨_, by rw [hn]⟩, q1⟩
def strsD : List D → Option (List Str)
  | [] => some []
  | .str x :: r => (strsD r).map (x :: ·)
  | _ => none
theorem strs_of {K : PySem.W.Frag} {F : Hp} : ∀ {vs : List V} {ds : List D} {xs : List Str}, RvA K F vs ds → strsD ds = some xs → vs = xs.map V.str
  | [], [], xs, _, h => by cases h; rfl
  | v :: vs, d :: ds, xs, r, h => by
    cases r with
    | cons a r =>
      cases d <;> first | (cases h; done) | skip
      obtain ⟨ys, h1, rfl⟩ := Option.map_eq_some_iff.mp (show (strsD ds).map (_ :: ·) = some xs from h)
      cases a
      rw [strs_of r h1]
      rfl
def gLenT : D → (Rs → Prop) → Prop
  | .lst ds, Q => gOpt (strsD ds) fun xs => xs.length ≤ 4000 ∧ Q (.sh (.int (VHS.dif xs xs.length : Nat)))
  | _, _ => False
section
variable {X : Cx} {R : Res} {E : XK} {a : Expr} {ta : TE} {wa : WE} {p p2 q pos : Pos}
theorem evw_lenT {K : PySem.W.Frag} (h : EvW R K E ta wa) : EvW R K E (tLenT K ta) (wUn gLenT wa) := by
  intro F0 H0 env σ F H Xn Q Q' t ws q k
  refine h F0 H0 env σ F H _ _ _ t ws q fun v r F1 H1 s1 o1 rr q1 => ?_
  have tp := rr.top
  unfold gLenT at q1
  split at q1
  · rename_i ds e
    rw [e] at tp
    obtain ⟨xs, h1, h2, h3⟩ := gOpt_ex q1
    obtain ⟨p, vs, rfl, hx, _, r⟩ := top_lst o1 tp
    rw [strs_of r h1] at hx
    exact ⟨p, xs, rfl, SqL.of hx, h2, k _ (.sh (.int _)) F1 H1 s1 o1 (.int _) h3⟩
  · exact q1.elim
theorem v_lenT (hc : X.calm = true) (hm : X.mg "len" = none) (hm2 : X.mg "set" = none) (ha : VE X R E a ta wa) (hg : Gl X "len" := by rfl) (hg2 : Gl X "set" := by rfl) (na : starEach [a] X.env = (false, eval a X.env) :: starEach [] X.env := by rfl) :
    VE X R E (.Call (.Name "len" p) [.Call (.Name "set" p2) [a] [] q] [] pos) (tLenT X.K ta) (wUn gLenT wa) := ⟨pe_lenT hc hm hm2 ha.p hg hg2 na, evw_lenT ha.w⟩
end
/-! ### repr -/
def rReprX (K : PySem.W.Frag) : List V → Hp → VK → Prop := fun xs H Q => rRepr K xs H Q ∨ (∃ i : Int, xs = [.int i] ∧ i.natAbs.log2 < 1920 ∧ Q (.str (toString i)) H) ∨ (xs = [.non] ∧ Q (.str "None") H)
theorem cr_reprX {X : Cx} (hg : X.A.guards = some []) (hu : X.A.units + 100 < cLine) : CallR X (.builtin "repr") (rReprX X.K) := by
  intro pins s σ H xs us Q I r h
  rcases h with h | h | h
  · exact cr_repr hg hu pins s σ H xs us Q I r h
  · exact SkE.call_repr_int pins s σ H xs us Q I r h
  · obtain ⟨rfl, q⟩ := h
    obtain ⟨u, rfl, ru⟩ := vals1 r
    cases ru
    exact PySem.P.repr_of_none ⟨.str "None", H, I.tok _, ⟨_, rfl⟩, q⟩
def gReprX : D → (Rs → Prop) → Prop
  | .int i, Q => i.natAbs.log2 < 1920 ∧ Q (.sh (.str (toString i)))
  | .non, Q => Q (.sh (.str "None"))
  | .bl b, Q => Q (.sh (.str (if b then "True" else "False")))
  | .tup ds, Q => gOpt (D.data (.tup ds)) fun x => ReprOk x ∧ Q (.sh (.str x.shown))
  | .lst ds, Q => gOpt (D.data (.lst ds)) fun x => ReprOk x ∧ Q (.sh (.str x.shown))
  | _, _ => False
theorem unw_reprX {R : Res} {K : PySem.W.Frag} : UnW R K (fun x => rReprX K [x]) gReprX := by
  intro F H x a Q Q' o ha h k
  cases a <;> first | exact False.elim h | skip
  · rw [top_non ha]; exact .inr (.inr ⟨rfl, now o k (.str _) h⟩)
  · exact .inl (unw_repr F H x _ Q Q' o ha h k)
  · rw [top_int ha]; exact .inr (.inl ⟨_, rfl, h.1, now o k (.str _) h.2⟩)
  · exact .inl (unw_repr F H x _ Q Q' o ha h k)
  · exact .inl (unw_repr F H x _ Q Q' o ha h k)
end VH

set_option Elab.async false
set_option maxRecDepth 100000
set_option linter.all false
set_option maxHeartbeats 4000000
/-! raise C(e), C's __init__ keeping its one argument; try: x = f(..) except C as n: return n.f -/
namespace VH
open PySem L2
open PyProof.Rows (envOfC)
def spEx (C : Addr) (f : Str) : Sp := fun vs H Q _ => ∃ a v, vs = [.ref a, v] ∧ H a = some (exo a C none) ∧ ∀ dx, H dx = none → dx ≠ a → Q .non (upd (upd H dx (exd dx [(f, v)])) a (exo a C (some dx)))
/-- the class C (by its name x), which keeps its one argument as f -/
structure ExG (P : Program) (w : World) (K : PySem.W.Frag) (mg : Str → Option Value) (base : Heap) (x : Str) (C : Addr) (f : Str) : Prop where
  own : OexC K C
  xf : XfC K C
  no : PySem.W.findIn K (.ref C) f = some none
  me : PySem.W.exmOne K (.ref C) (.ref C) = some true
  top : mg x = some (.ref C)
  ini : ∃ fI fd ps, PySem.W.findIn K (.ref C) "__init__" = some (some (.ref fI)) ∧ PySem.W.typeIn K (.ref fI) = some (.type "function") ∧ FnOk P w K mg base (L2.CX P w) 1 fI fd ps (spEx C f) ∧ Binds K fd ps []
theorem exinit_ok {P : Program} {w : World} {K : PySem.W.Frag} {mg : Str → Option Value} {base : Heap} {C fI : Addr} {x qual f : Str} {st : Stmt} {fd : FuncData} {N : List Str} {p1 p2 p3 p4 : Pos} {y : Str} (F : Fun K x qual st fI fd) (S : FnScope N ["self", y] (defScope st)) (hN : N = [("self" : Str), y])
    (hb : defBody st = [.Assign [.Attribute (.Name "self" p1) f p2] (.Name y p3) p4]) (T : OexC K C) (no : PySem.W.findIn K (.ref C) f = some none) (hd : (y == ("__debug__" : Str)) = false) (hcd : (y == ("__classdict__" : Str)) = false)
    (hs : ∀ (cdv : Value) (A : Around) (outer : List PySem.Env) (s : Shared) (H : Hp) (E : XK), swapsWith (.Name y p3) (some (.Attribute (.Name "self" p1) f p2)) p4.line (cxOf (L2.CX P w) P w K mg base N qual (defScope st) fI cdv A outer s H E).env = pure false) :
    FnOk P w K mg base (L2.CX P w) 1 fI fd ["self", y] (spEx C f) := by
  obtain ⟨oc, od, kV, doc, pm, an, cdv, ct, osl, rfl, lk, hcd'⟩ := F.ex
  refine fn_of lk hcd' S (fun vs H Q E h => ?_) fun A outer s H vs Q E hr h => ?_
  · obtain ⟨a, v, rfl, _⟩ := h
    rfl
  · obtain ⟨a, v, rfl, ha, hq⟩ := h
    subst hN
    rw [hb]
    refine ⟨_, pss_one (ps_ost (pe_var (i := 0) rfl ((S.par "self" (by simp)).elim (fun z => .inl z) fun z => .inr (.inl z))) (pe_var (i := 1) rfl ((S.par y (by simp)).elim (fun z => .inl z) fun z => .inr (.inl z)) hd hcd) (hs _ A outer s H E)), ?_⟩
    exact ⟨v, rfl, .ref a, rfl, a, C, rfl, T, no, .inl ⟨ha, fun dx n ne => hq dx n ne⟩⟩
section
variable {X : Cx} {R : Res} {E : XK} {x f : Str} {C : Addr} {e : Expr} {te : TE} {we : WE} {p pos pos' : Pos}
def wRaise (C : Addr) (f : Str) (we : WE) : WS := fun env D => we env D.xn fun r => fzW r fun d => D.xn ⟨C, some [(f, d)]⟩
theorem esw_raise {K : PySem.W.Frag} (h : EvW R K E te we) : EsW R K E (fun _ σ H => tMkO C (spEx C f) [] (tCons te tNil) σ H fun cls d H' => E cls d H') (wRaise C f we) := by
  intro F0 H0 env σ F H D D' t ws en q
  refine h F0 H0 env σ F H _ _ _ t ws q fun v r F1 H1 s1 o1 rr q1 => ?_
  obtain ⟨d, F2, s2, o2, rv, q2⟩ := rr.fz s1 o1 q1
  refine ⟨by simp, fun a ha => ⟨a, v, rfl, upd_same, fun dx hdx ne => ?_⟩⟩
  have hdx1 : H1 dx = none := by rw [upd_ne ne] at hdx; exact hdx
  refine ⟨rfl, dx, [(f, v)], upd_same, by rw [upd_ne ne]; exact upd_same, hdx1, ?_⟩
  have eq : upd (del (upd (upd (upd H1 a (exo a C none)) dx (exd dx [(f, v)])) a (exo a C (some dx))) a) dx (.xd [(f, v)]) = upd H1 dx (.xd [(f, v)]) := by
    funext b
    by_cases h1 : b = dx
    · subst h1; rw [upd_same, upd_same]
    · rw [upd_ne h1, upd_ne h1]
      by_cases h2 : b = a
      · subst h2; rw [del_same, ha]
      · rw [del_ne h2, upd_ne h2, upd_ne h1, upd_ne h2]
  rw [eq]
  exact ws ⟨C, some [(f, d)]⟩ _ _ F2 _ ((t.stp.trans s2).trans (o2.newT hdx1)) (o2.newO hdx1) ⟨rfl, dx, [(f, v)], rfl, upd_same, rfl, .cons rv .nil⟩ q2
theorem s_raise (G : ExG X.prog X.w X.K X.mg X.base x C f) (hr : Room 2 X.A) (he : VE X R E e te we) (hc : X.calm = true := by rfl) (tk : Takes X (fun cls d _ H => E cls d H) := by exact takes_of rfl rfl rfl rfl) (gl : Gl X x := by rfl)
    (hdb : (x == ("__debug__" : Str)) = false := by decide) (hs : starEach [e] X.env = (false, eval e X.env) :: starEach [] X.env := by rfl) (hpl : (backTo pos (starEach [] X.env)).any (·.1) = false := by rfl) :
    VS X R E (.Raise (some (.Call (.Name x p) [e] [] pos)) none pos') (fun _ σ H => tMkO C (spEx C f) [] (tCons te tNil) σ H fun cls d H' => E cls d H') (wRaise C f we) := by
  obtain ⟨fI, fd, ps, h1, h2, h3, h4⟩ := G.ini
  exact ⟨ps_raise hc tk (pmk_oex G.own h1 h2 h3 hr h4 .nil (passN (P := X.prog) (w := X.w)) gl G.top (pa_cons he.p pa_nil hs) hdb hs hpl), esw_raise he.w⟩
/-! try -/
def exW (X : Cx) (W : WX) : XK := fun cls d H => ∀ σ : L2.St, σ.length = X.N.length → W cls d σ H
theorem passT {W : WX} {pn : List (Addr × Obj)} {xe : Value → Shared → Prop} (tk : Takes (X.tr pn xe) W) : Passes (L2.CX X.prog X.w) (X.tr pn xe) (exW X W) :=
  fun _ σ _ _ e s' I c => tk e s' (XE.of_call I (fun cls d H' h => h σ I.len) c)
def wTry (C : Addr) (f : Str) (wb : WS) : WS := fun env D => wb env { D with xn := fun ex => ∃ d, ex = ⟨C, some [(f, d)]⟩ ∧ D.rt (.sh d) }
variable {n : Str} {i : Nat} {b : Stmt} {tb : XK → TS} {wb : WS} {np p1 p2 p3 : Pos}
theorem s_try (i : Nat) (G : ExG X.prog X.w X.K X.mg X.base x C f) (hN : X.N.Nodup) (hb : ∀ (E' : XK) (pn : List (Addr × Obj)) (xe : Value → Shared → Prop), Passes (L2.CX X.prog X.w) (X.tr pn xe) E' → VS (X.tr pn xe) R E' b (tb E') wb)
    (hi : X.N[i]? = some n := by rfl) (hln : X.env.kindOf n = some .local := by rfl) (gl : Gl X x := by rfl) (hdb : (x == ("__debug__" : Str)) = false := by decide) (hn1 : (n == ("__debug__" : Str)) = false := by decide) (hn2 : (n == ("__classdict__" : Str)) = false := by decide)
    (hs : X.stack = X.env :: X.outer := by rfl) (hf : X.env.frame = some X.env.locals := by rfl) (tk : Takes X (fun cls d _ H => E cls d H) := by exact takes_of rfl rfl rfl rfl) (hab : attributeBase (.Name n p1) f X.env (eval (.Name n p1) X.env) = eval (.Name n p1) X.env := by rfl) :
    VS X R E (.Try [b] [.ExceptHandler (some (.Name x np)) (some n) [.Return (some (.Attribute (.Name n p1) f p2)) p3] pos'] [] [] pos)
      (fun D σ H => tb (exW X (wAs X.K (.ref C) i (fun a cls d => tRet (tXf a cls d C f (tVar i))) (fun cls d _ H => E cls d H) D)) D σ H) (wTry C f wb) := by
  refine ⟨ps_try_as hs hf hN hi hln ⟨gl, hdb, .inl G.top⟩ tk (tb := fun W => tb (exW X W)) (fun W pn xe tkW _ => pss_one (hb _ pn xe (passT tkW)).p) (fun a oe cls d pn hz hfl => pss_one (ps_ret (pe_xf G.xf G.no hz hfl (pe_var hi (.inl hln) hn1 hn2) hab))), ?_⟩
  intro F0 H0 env σ F H D D' t0 ws e q
  have hil := (List.getElem?_eq_some_iff.mp hi).1
  refine (hb _ [] (fun _ _ => True) fun _ _ _ _ _ _ _ _ => trivial).w F0 H0 env σ F H D { D' with xn := fun ex => ∃ d, ex = ⟨C, some [(f, d)]⟩ ∧ D'.rt (.sh d) } t0 ?_ ⟨e.nx, e.bk, e.ct, e.rt⟩ q
  rintro ex cls d F1 H1 s1 o1 hx ⟨dd, rfl, hrt⟩ σ1 hσ
  obtain ⟨rfl, a, fs, rfl, hxd, hk, hv⟩ := hx
  obtain ⟨v, rfl⟩ : ∃ v, fs = [(f, v)] := by
    match fs, hk with
    | [(g, v)], hk => simp at hk; rw [hk]; exact ⟨v, rfl⟩
  cases hv with
  | cons rv _ =>
  refine ⟨true, G.me, fun _ a' ha' => ?_, fun z => by cases z⟩
  refine ⟨.ref a', List.getElem?_set_self (by rw [hσ]; exact hil), rfl, rfl, a, [(f, v)], v, rfl, hxd, by simp [List.lookup_cons], e.rt v (.sh dd) F1 H1 s1 o1 rv hrt⟩
end
end VH
namespace VH
open PySem L2
section
variable {R : Res} {K : PySem.W.Frag}
/-- isinstance that is never asked -/
theorem opw_isi0 : OpW R K (fun x y => rIsi K [x, y]) (fun _ _ _ => False) := fun _ _ _ _ _ _ _ _ _ _ _ h => h.elim
/-- a def that is never called -/
theorem FnG.none {P : Program} {w : World} {mg : Str → Option Value} {base : Heap} {k : Nat} {f : Addr} {fd : FuncData} {ps : List Str} : FnG P w K mg base k f fd ps (spV K fun _ _ _ _ => False) :=
  ⟨fun _ _ _ _ ⟨_, _, _, _, _, _, _, _, _, h⟩ => h.elim, fun _ _ _ _ _ _ _ _ _ _ _ _ _ _ ⟨_, _, _, _, _, _, _, _, _, h⟩ => h.elim⟩
end
end VH
namespace VH
open PySem L2
theorem v_gstrE {X : Cx} {R : Res} {E : XK} {pos : Pos} {x i : Str} (hm : ∃ t, X.mg x = some (.str i t)) (hg : Gl X x := by rfl) (hd : (x == ("__debug__" : Str)) = false := by decide) : VE X R E (.Name x pos) (tC (.str i)) (wC (.str i)) := by
  obtain ⟨t, hm⟩ := hm
  exact v_glob hm ⟨t, rfl⟩ (fun _ => .str i) hg hd
end VH
namespace VH
open PySem L2
section
variable {R : Res} {K : PySem.W.Frag}
/-! all([..]) -/
def blsD : List D → Option (List Bool)
  | [] => some []
  | .bl b :: r => (blsD r).map (b :: ·)
  | _ => none
theorem bls_of {F : Hp} : ∀ {vs : List V} {ds : List D} {xs : List Bool}, RvA K F vs ds → blsD ds = some xs → vs = xs.map V.bl
  | [], [], xs, _, h => by cases h; rfl
  | v :: vs, d :: ds, xs, r, h => by
    cases r with
    | cons a r =>
      cases d <;> first | (cases h; done) | skip
      obtain ⟨ys, h1, rfl⟩ := Option.map_eq_some_iff.mp (show (blsD ds).map (_ :: ·) = some xs from h)
      cases a
      rw [bls_of r h1]
      rfl
theorem blsD_map : ∀ {bs : List Bool}, blsD (bs.map D.bl) = some bs
  | [] => rfl
  | b :: bs => by
    show (blsD (bs.map D.bl)).map (b :: ·) = _
    rw [blsD_map]
    rfl
def gAll : D → (Rs → Prop) → Prop
  | .lst ds, Q => gOpt (blsD ds) fun bs => Q (.sh (.bl (bs.all id)))
  | _, _ => False
theorem unw_all : UnW R K (fun x => rAll K [x]) gAll := by
  intro F H x a Q Q' o ha h k
  cases a <;> first | exact False.elim h | skip
  obtain ⟨bs, h1, h2⟩ := gOpt_ex h
  obtain ⟨p, xs, rfl, hx, _, r⟩ := top_lst o ha
  rw [bls_of r h1] at hx
  exact ⟨p, bs, rfl, SqL.of hx, now o k (.bl _) h2⟩
end
end VH

set_option Elab.async false
set_option maxRecDepth 100000
set_option linter.all false
set_option maxHeartbeats 2000000
namespace K50
open PySem L2 VH
/-! rows as the graph sees them -/
inductive Kd where
  | ret | fail | jump (t : Nat) | test (t : Nat) | other
inductive RowIs : D → Kd → Prop
  | ret {r : List D} : RowIs (.tup (.str "return" :: r)) .ret
  | fail {r : List D} : RowIs (.tup (.str "fail" :: r)) .fail
  | jump {a : D} {t : Nat} : RowIs (.tup [.str "jump", a, .int (t : Nat)]) (.jump t)
  | test {a b : D} {t : Nat} : RowIs (.tup [.str "test", a, b, .int (t : Nat)]) (.test t)
  | other {s : Str} {r : List D} (h1 : s ≠ "return") (h2 : s ≠ "fail") (h3 : s ≠ "jump") (h4 : s ≠ "test") : RowIs (.tup (.str s :: r)) .other
inductive RowsAre : List D → List Kd → Prop
  | nil : RowsAre [] []
  | cons {d : D} {k : Kd} {ds : List D} {ks : List Kd} : RowIs d k → RowsAre ds ks → RowsAre (d :: ds) (k :: ks)
theorem RowsAre.length : ∀ {ds : List D} {ks : List Kd}, RowsAre ds ks → ds.length = ks.length
  | _, _, .nil => rfl
  | _, _, .cons _ r => by simp [RowsAre.length r]
theorem RowsAre.get : ∀ {ds : List D} {ks : List Kd} {i : Nat} {k : Kd}, RowsAre ds ks → ks[i]? = some k → ∃ d, ds[i]? = some d ∧ RowIs d k
  | _, _, _, _, .nil, h => by cases h
  | _, _, 0, _, .cons h _, e => by cases e; exact ⟨_, rfl, h⟩
  | _, _, i + 1, k, .cons _ r, e => by
    obtain ⟨d, h1, h2⟩ := RowsAre.get (i := i) r (by simpa using e)
    exact ⟨d, by simpa using h1, h2⟩
theorem RowsAre.append : ∀ {ds es : List D} {ks ls : List Kd}, RowsAre ds ks → RowsAre es ls → RowsAre (ds ++ es) (ks ++ ls)
  | _, _, _, _, .nil, h => h
  | _, _, _, _, .cons a r, h => .cons a (r.append h)
theorem RowsAre.snoc {ds : List D} {ks : List Kd} {d : D} {k : Kd} (r : RowsAre ds ks) (h : RowIs d k) : RowsAre (ds ++ [d]) (ks ++ [k]) := r.append (.cons h .nil)
def nexts (n at_ : Nat) : Kd → List Nat
  | .ret => []
  | .fail => []
  | .jump t => [t]
  | .test t => (if at_ + 1 < n then [at_ + 1] else []) ++ [t]
  | .other => if at_ + 1 < n then [at_ + 1] else []
def steps (ks : List Kd) (at_ : Nat) : List Nat := match ks[at_]? with
  | some k => nexts ks.length at_ k
  | none => []
theorem steps_of {ks : List Kd} {i : Nat} {k : Kd} (h : ks[i]? = some k) : steps ks i = nexts ks.length i k := by simp [steps, h]
theorem steps_out {ks : List Kd} {i : Nat} (h : ks.length ≤ i) : steps ks i = [] := by simp [steps, List.getElem?_eq_none h]
def nats (l : List Nat) : List D := l.map fun t => .int (t : Nat)
def lnexts (i : Nat) : Kd → List Nat
  | .ret => []
  | .fail => []
  | .jump t => [t]
  | .test t => [i + 1, t]
  | .other => [i + 1]
def GoodG (ks : List Kd) : Prop := ∀ i k, ks[i]? = some k → ∀ t ∈ lnexts i k, t < ks.length
theorem steps_good {ks : List Kd} {i : Nat} {k : Kd} (g : GoodG ks) (h : ks[i]? = some k) : steps ks i = lnexts i k := by
  have g := g i k h
  rw [steps_of h]
  cases k <;> simp [nexts, lnexts] at g ⊢
  · rw [if_pos g.1]; rfl
  · exact g
theorem steps_two {ks : List Kd} {i : Nat} : (steps ks i).length ≤ 2 := by
  unfold steps
  split
  · rename_i k _
    cases k <;> simp [nexts]
    · split <;> simp
    · split <;> simp
  · simp
theorem steps_lt {ks : List Kd} {i t : Nat} (g : GoodG ks) (h : t ∈ steps ks i) : t < ks.length := by
  cases e : ks[i]? with
  | none => simp [steps, e] at h
  | some k => rw [steps_good g e] at h; exact g i k e t h
def bP : Kd → Nat
  | .ret => 1
  | _ => 0
def bF : Kd → Nat
  | .fail => 1
  | _ => 0
def b1 : Kd → Nat := fun _ => 1
def at0 (b : Kd → Nat) (ks : List Kd) (i : Nat) : Nat := match ks[i]? with
  | some k => b k
  | none => 0
def wy (ks : List Kd) (b : Kd → Nat) (c : Nat) : Nat → Nat → Nat
  | 0, _ => 0
  | m + 1, i => at0 b ks i + ((steps ks i).map fun t => if t ≤ i then c else wy ks b c m t).sum
def W (ks : List Kd) (b : Kd → Nat) (c : Nat) (i : Nat) : Nat := wy ks b c (ks.length - i) i
section
variable {ks : List Kd} {b : Kd → Nat} {c : Nat}
theorem wy_out {m i : Nat} (h : ks.length ≤ i) : wy ks b c m i = 0 := by
  cases m with
  | zero => rfl
  | succ m => simp [wy, at0, steps_out h, List.getElem?_eq_none h]
theorem sum_congr {f g : Nat → Nat} : ∀ {l : List Nat}, (∀ t ∈ l, f t = g t) → (l.map f).sum = (l.map g).sum
  | [], _ => rfl
  | t :: l, h => by
    rw [List.map_cons, List.map_cons, List.sum_cons, List.sum_cons, h t (by simp), sum_congr fun u hu => h u (by simp [hu])]
theorem wy_stab : ∀ (m : Nat) (i : Nat), ks.length - i ≤ m → wy ks b c m i = W ks b c i := by
  intro m
  induction m using Nat.strongRecOn with
  | ind m ih =>
    intro i h
    by_cases o : ks.length ≤ i
    · rw [wy_out o, W, wy_out o]
    · obtain ⟨m', rfl⟩ : ∃ m', m = m' + 1 := ⟨m - 1, by omega⟩
      obtain ⟨j, hj⟩ : ∃ j, ks.length - i = j + 1 := ⟨ks.length - i - 1, by omega⟩
      unfold W
      rw [hj]
      show at0 b ks i + _ = at0 b ks i + _
      congr 1
      refine sum_congr fun t ht => ?_
      by_cases e : t ≤ i
      · rw [if_pos e, if_pos e]
      · rw [if_neg e, if_neg e, ih m' (by omega) t (by omega), ih j (by omega) t (by omega)]
theorem W_eq {i : Nat} (h : i < ks.length) : W ks b c i = at0 b ks i + ((steps ks i).map fun t => if t ≤ i then c else W ks b c t).sum := by
  obtain ⟨j, hj⟩ : ∃ j, ks.length - i = j + 1 := ⟨ks.length - i - 1, by omega⟩
  have e : W ks b c i = wy ks b c (j + 1) i := by unfold W; rw [hj]
  rw [e]
  show at0 b ks i + _ = at0 b ks i + _
  congr 1
  refine sum_congr fun t ht => ?_
  by_cases e : t ≤ i
  · rw [if_pos e, if_pos e]
  · rw [if_neg e, if_neg e, wy_stab j t (by omega)]
theorem W_out {i : Nat} (h : ks.length ≤ i) : W ks b c i = 0 := wy_out h
end
/-- the number of places of the tree below -/
theorem T_le {ks : List Kd} : ∀ (m i : Nat), ks.length - i ≤ m → W ks b1 0 i + 1 ≤ 2 ^ (m + 1) := by
  intro m
  induction m with
  | zero => intro i h; rw [W_out (by omega)]; simp
  | succ m ih =>
    intro i h
    by_cases o : ks.length ≤ i
    · rw [W_out o]; have := Nat.pow_pos (n := m + 1 + 1) (show 0 < 2 by omega); omega
    · rw [W_eq (by omega)]
      have e : at0 b1 ks i ≤ 1 := by unfold at0; split <;> simp [b1]
      have each : ∀ t, (if t ≤ i then 0 else W ks b1 0 t) + 1 ≤ 2 ^ (m + 1) := fun t => by
        by_cases e : t ≤ i
        · rw [if_pos e]; have := Nat.pow_pos (n := m + 1) (show 0 < 2 by omega); omega
        · rw [if_neg e]; exact ih t (by omega)
      have two := steps_two (ks := ks) (i := i)
      have p : 2 ^ (m + 1 + 1) = 2 * 2 ^ (m + 1) := by rw [Nat.pow_succ]; omega
      match hs : steps ks i with
      | [] => simp; have := Nat.pow_pos (n := m + 1) (show 0 < 2 by omega); omega
      | [t] => simp; have := each t; have := Nat.pow_pos (n := m + 1) (show 0 < 2 by omega); omega
      | [t, u] => simp; have := each t; have := each u; omega
      | t :: u :: v :: r => rw [hs] at two; simp at two
theorem T_pos {ks : List Kd} {i : Nat} (h : i < ks.length) : 1 ≤ W ks b1 0 i := by
  rw [W_eq h, at0, List.getElem?_eq_getElem h]
  simp [b1]
/-! the exact graph -/
def vl : List Nat → Nat → Nat
  | [], m => m
  | f :: fs, m => 2 * vl fs m + f
theorem vl_snoc : ∀ (fs : List Nat) (m : Nat), vl (fs ++ [m % 2]) (m / 2) = vl fs m
  | [], m => by show 2 * (m / 2) + m % 2 = m; omega
  | f :: fs, m => by show 2 * vl (fs ++ [m % 2]) (m / 2) + f = _; rw [vl_snoc fs m]; rfl
def exT (size : Nat) : Nat → List Nat → List Kd
  | _, [] => []
  | n, f :: fs => if f = 1 then .test size :: .test (n + 2) :: exT size (n + 2) fs else .test (n + 1) :: exT size (n + 1) fs
def exLen : List Nat → Nat
  | [] => 0
  | f :: fs => 1 + f + exLen fs
theorem exT_len {size : Nat} : ∀ {fs : List Nat} {n : Nat}, (∀ f ∈ fs, f < 2) → (exT size n fs).length = exLen fs
  | [], _, _ => rfl
  | f :: fs, n, h => by
    have hf := h f (by simp)
    have ih : ∀ n, (exT size n fs).length = exLen fs := fun n => exT_len fun g hg => h g (by simp [hg])
    unfold exT exLen
    split
    · simp [ih]; omega
    · simp [ih]; omega
theorem exT_get {size : Nat} : ∀ {fs : List Nat} {n i : Nat} {k : Kd}, (∀ f ∈ fs, f < 2) → n + exLen fs = size → (exT size n fs)[i]? = some k → ∃ t, k = .test t ∧ t ≤ size
  | [], _, _, _, _, _, h => by simp [exT] at h
  | f :: fs, n, i, k, hb, e, h => by
    have hf := hb f (by simp)
    unfold exLen at e
    unfold exT at h
    split at h
    · match i with
      | 0 => cases h; exact ⟨_, rfl, Nat.le_refl _⟩
      | 1 => cases h; exact ⟨_, rfl, by omega⟩
      | i + 2 => exact exT_get (i := i) (fun g hg => hb g (by simp [hg])) (by omega) h
    · match i with
      | 0 => cases h; exact ⟨_, rfl, by omega⟩
      | i + 1 => exact exT_get (i := i) (fun g hg => hb g (by simp [hg])) (by omega) h
inductive LastIs : Str → Kd → Prop
  | jump : LastIs "jump" (.jump 0)
  | fail : LastIs "fail" .fail
  | ret : LastIs "return" .ret
def exKs (figs : List Nat) (last : Kd) : List Kd := .other :: (exT (1 + exLen figs) 1 figs ++ [last])
theorem exKs_len {figs : List Nat} {last : Kd} (h : ∀ f ∈ figs, f < 2) : (exKs figs last).length = 2 + exLen figs := by
  simp [exKs, exT_len h]; omega
theorem exKs_good {figs : List Nat} {last : Kd} {s : Str} (h : ∀ f ∈ figs, f < 2) (hl : LastIs s last) : GoodG (exKs figs last) := by
  intro i k hk t ht
  rw [exKs_len h]
  match i with
  | 0 =>
    cases hk
    simp [lnexts] at ht
    omega
  | i + 1 =>
    have hk : (exT (1 + exLen figs) 1 figs ++ [last])[i]? = some k := by simpa [exKs] using hk
    by_cases c : i < (exT (1 + exLen figs) 1 figs).length
    · rw [List.getElem?_append_left c] at hk
      obtain ⟨u, rfl, hu⟩ := exT_get h rfl hk
      rw [exT_len h] at c
      simp [lnexts] at ht
      omega
    · rw [List.getElem?_append_right (by omega)] at hk
      cases e : i - (exT (1 + exLen figs) 1 figs).length with
      | zero =>
        rw [e] at hk
        cases hk
        cases hl <;> simp [lnexts] at ht
        omega
      | succ j => rw [e] at hk; simp at hk
theorem exVal {ks : List Kd} {b : Kd → Nat} {c size : Nat} {last : Kd} (hb : ∀ t, b (.test t) = 0) : ∀ {fs : List Nat} {pre : List Kd}, (∀ f ∈ fs, f < 2) → ks = pre ++ (exT size pre.length fs ++ [last]) → pre.length + exLen fs = size →
    W ks b c pre.length = vl fs 1 * W ks b c size
  | [], pre, _, e, el => by
    rw [← el]
    simp [exLen, vl]
  | f :: fs, pre, h, e, el => by
    have hf := h f (by simp)
    have hr : ∀ g ∈ fs, g < 2 := fun g hg => h g (by simp [hg])
    have len : ks.length = size + 1 := by rw [e]; simp [exT_len h]; omega
    unfold exLen at el
    by_cases f1 : f = 1
    · subst f1
      have e2 : ks = (pre ++ [Kd.test size, Kd.test (pre.length + 2)]) ++ (exT size (pre ++ [Kd.test size, Kd.test (pre.length + 2)]).length fs ++ [last]) := by
        rw [e, exT, if_pos rfl]; simp
      have ih := exVal (b := b) (c := c) hb hr e2 (by simp; omega)
      have g1 : ks[pre.length]? = some (.test size) := by rw [e2]; simp
      have g2 : ks[pre.length + 1]? = some (.test (pre.length + 2)) := by
        rw [e2, List.getElem?_append_left (by simp), List.getElem?_append_right (by omega)]
        simp
      have l2 : (pre ++ [Kd.test size, Kd.test (pre.length + 2)]).length = pre.length + 2 := by simp
      rw [l2] at ih
      rw [W_eq (i := pre.length) (by omega), steps_of g1, at0, g1]
      have w2 : W ks b c (pre.length + 1) = 2 * W ks b c (pre.length + 2) := by
        rw [W_eq (by omega), steps_of g2, at0, g2]
        simp only [hb, nexts, if_pos (show pre.length + 1 + 1 < ks.length by omega), List.cons_append, List.nil_append, List.map_cons, List.map_nil, List.sum_cons, List.sum_nil]
        rw [if_neg (by omega)]
        show 0 + (W ks b c (pre.length + 2) + (W ks b c (pre.length + 2) + 0)) = _
        omega
      simp only [hb, nexts, if_pos (show pre.length + 1 < ks.length by omega), List.cons_append, List.nil_append, List.map_cons, List.map_nil, List.sum_cons, List.sum_nil]
      rw [if_neg (by omega), if_neg (by omega), w2, ih]
      show _ = (2 * vl fs 1 + 1) * _
      rw [Nat.add_mul, Nat.one_mul, Nat.mul_assoc]
      omega
    · have f0 : f = 0 := by omega
      subst f0
      have e2 : ks = (pre ++ [Kd.test (pre.length + 1)]) ++ (exT size (pre ++ [Kd.test (pre.length + 1)]).length fs ++ [last]) := by
        rw [e, exT, if_neg (by omega)]; simp
      have ih := exVal (b := b) (c := c) hb hr e2 (by simp; omega)
      have g1 : ks[pre.length]? = some (.test (pre.length + 1)) := by rw [e2]; simp
      have l2 : (pre ++ [Kd.test (pre.length + 1)]).length = pre.length + 1 := by simp
      rw [l2] at ih
      rw [W_eq (i := pre.length) (by omega), steps_of g1, at0, g1]
      simp only [hb, nexts, if_pos (show pre.length + 1 < ks.length by omega), List.cons_append, List.nil_append, List.map_cons, List.map_nil, List.sum_cons, List.sum_nil]
      rw [if_neg (by omega), ih]
      show _ = (2 * vl fs 1 + 0) * _
      rw [Nat.add_mul, Nat.zero_mul, Nat.mul_assoc]
      omega
theorem exW {figs : List Nat} {last : Kd} {b : Kd → Nat} {c : Nat} (hb : ∀ t, b (.test t) = 0) (ho : b .other = 0) (h : ∀ f ∈ figs, f < 2) :
    W (exKs figs last) b c 0 = vl figs 1 * (b last + ((nexts (2 + exLen figs) (1 + exLen figs) last).map fun t => if t ≤ 1 + exLen figs then c else W (exKs figs last) b c t).sum) := by
  have len := exKs_len (last := last) h
  have v := exVal (ks := exKs figs last) (b := b) (c := c) (size := 1 + exLen figs) (last := last) hb (pre := [.other]) h rfl (by simp)
  have gl : (exKs figs last)[1 + exLen figs]? = some last := by
    show (Kd.other :: (exT (1 + exLen figs) 1 figs ++ [last]))[1 + exLen figs]? = _
    rw [show 1 + exLen figs = exLen figs + 1 by omega, List.getElem?_cons_succ, List.getElem?_append_right (by rw [exT_len h]; omega), exT_len h]
    simp
  have g0 : (exKs figs last)[0]? = some .other := rfl
  have e1 : W (exKs figs last) b c 0 = W (exKs figs last) b c 1 := by
    rw [W_eq (by omega), steps_of g0, at0, g0]
    simp [ho, nexts, len, show 1 < 2 + exLen figs by omega]
  have v' : W (exKs figs last) b c 1 = vl figs 1 * W (exKs figs last) b c (1 + exLen figs) := v
  rw [e1, v']
  congr 1
  rw [W_eq (by omega), steps_of gl, at0, gl, len]
def ways (ks : List Kd) : D := .tup [.int (min (W ks bP 1 0 : Nat) (65 : Int)), .int (min (W ks bF 0 0 : Nat) (4001 : Int))]
theorem ways_of {ks : List Kd} {x y : Int} (h1 : x ≤ (W ks bP 1 0 : Nat)) (h2 : x ≤ 65) (h3 : x = (W ks bP 1 0 : Nat) ∨ x = 65) (h4 : y ≤ (W ks bF 0 0 : Nat)) (h5 : y ≤ 4001) (h6 : y = (W ks bF 0 0 : Nat) ∨ y = 4001) : ways ks = .tup [.int x, .int y] := by
  have e1 : min (((W ks bP 1 0 : Nat)) : Int) 65 = x := by omega
  have e2 : min (((W ks bF 0 0 : Nat)) : Int) 4001 = y := by omega
  unfold ways
  rw [e1, e2]
theorem exact_P {figs : List Nat} {last : Kd} {s : Str} (h : ∀ f ∈ figs, f < 2) (hl : LastIs s last) : W (exKs figs last) bP 1 0 = if s = "fail" then 0 else vl figs 1 := by
  rw [exW (fun _ => rfl) rfl h]
  cases hl
  · rw [if_neg (by decide)]; simp [bP, nexts]
  · rw [if_pos rfl]; simp [bP, nexts]
  · rw [if_neg (by decide)]; simp [bP, nexts]
theorem exact_F {figs : List Nat} {last : Kd} {s : Str} (h : ∀ f ∈ figs, f < 2) (hl : LastIs s last) : W (exKs figs last) bF 0 0 = if s = "fail" then vl figs 1 else 0 := by
  rw [exW (fun _ => rfl) rfl h]
  cases hl
  · rw [if_neg (by decide)]; simp [bF, nexts]
  · rw [if_pos rfl]; simp [bF, nexts]
  · rw [if_neg (by decide)]; simp [bF, nexts]
/-! the long graph -/
def LongK (ks : List Kd) (last : Kd) : Prop := ks.length = 101 ∧ (∀ k, k < 100 → ∃ t, ks[k]? = some (.test t) ∧ k + 1 ≤ t ∧ t ≤ k + 2 ∧ t ≤ 100) ∧ ks[100]? = some last
theorem long_good {ks : List Kd} {last : Kd} {s : Str} (h : LongK ks last) (hl : LastIs s last) : GoodG ks := by
  obtain ⟨h1, h2, h3⟩ := h
  intro i k hk t ht
  have hi := (List.getElem?_eq_some_iff.mp hk).1
  by_cases c : i < 100
  · obtain ⟨u, e, a, b, d⟩ := h2 i c
    rw [e] at hk
    cases hk
    simp [lnexts] at ht
    omega
  · have : i = 100 := by omega
    subst this
    rw [h3] at hk
    cases hk
    cases hl <;> simp [lnexts] at ht
    omega
theorem long_step {ks : List Kd} {last : Kd} {b : Kd → Nat} {c : Nat} (hb : ∀ t, b (.test t) = 0) (h : LongK ks last) {i : Nat} (hi : i < 100) : ∃ t, i + 1 ≤ t ∧ t ≤ i + 2 ∧ t ≤ 100 ∧ W ks b c i = W ks b c (i + 1) + W ks b c t := by
  obtain ⟨h1, h2, h3⟩ := h
  obtain ⟨t, e, a, b', d⟩ := h2 i hi
  refine ⟨t, a, b', d, ?_⟩
  rw [W_eq (by omega), steps_of e, at0, e]
  simp only [hb, nexts, if_pos (show i + 1 < ks.length by omega), List.cons_append, List.nil_append, List.map_cons, List.map_nil, List.sum_cons, List.sum_nil]
  rw [if_neg (by omega), if_neg (by omega)]
  omega
theorem long_zero {ks : List Kd} {last : Kd} {b : Kd → Nat} {c : Nat} (hb : ∀ t, b (.test t) = 0) (h : LongK ks last) (z : W ks b c 100 = 0) : ∀ j i, i + j = 100 → W ks b c i = 0 := by
  intro j
  induction j using Nat.strongRecOn with
  | ind j ih =>
    intro i e
    by_cases c : j = 0
    · rw [show i = 100 by omega]; exact z
    · obtain ⟨t, a, b', d, w⟩ := long_step hb h (i := i) (by omega)
      rw [w, ih (j - 1) (by omega) (i + 1) (by omega), ih (100 - t) (by omega) t (by omega)]
theorem long_mono {ks : List Kd} {last : Kd} {b : Kd → Nat} {c : Nat} (hb : ∀ t, b (.test t) = 0) (h : LongK ks last) {i : Nat} (hi : i < 100) : W ks b c (i + 1) ≤ W ks b c i := by
  obtain ⟨t, _, _, _, w⟩ := long_step (b := b) (c := c) hb h hi
  omega
theorem long_two {ks : List Kd} {last : Kd} {b : Kd → Nat} {c : Nat} (hb : ∀ t, b (.test t) = 0) (h : LongK ks last) {i : Nat} (hi : i + 2 ≤ 100) : 2 * W ks b c (i + 2) ≤ W ks b c i := by
  obtain ⟨t, a, b', d, w⟩ := long_step (b := b) (c := c) hb h (i := i) (by omega)
  have m : W ks b c (i + 2) ≤ W ks b c (i + 1) := long_mono (b := b) (c := c) hb h (i := i + 1) (by omega)
  have : t = i + 1 ∨ t = i + 2 := by omega
  rcases this with rfl | rfl
  · omega
  · omega
theorem long_big {ks : List Kd} {last : Kd} {b : Kd → Nat} {c : Nat} (hb : ∀ t, b (.test t) = 0) (h : LongK ks last) (o : 1 ≤ W ks b c 100) : ∀ j, j ≤ 50 → 2 ^ j ≤ W ks b c (100 - 2 * j)
  | 0, _ => o
  | j + 1, hj => by
    have ih := long_big hb h o j (by omega)
    have t := long_two (b := b) (c := c) hb h (i := 100 - 2 * (j + 1)) (by omega)
    rw [show 100 - 2 * (j + 1) + 2 = 100 - 2 * j by omega] at t
    rw [Nat.pow_succ]
    omega
theorem long_W {ks : List Kd} {last : Kd} {b : Kd → Nat} {c : Nat} (hb : ∀ t, b (.test t) = 0) (h : LongK ks last) : (W ks b c 100 = 0 → W ks b c 0 = 0) ∧ (1 ≤ W ks b c 100 → 4001 ≤ W ks b c 0) := by
  refine ⟨fun z => long_zero hb h z 100 0 (by omega), fun z => ?_⟩
  have := long_big hb h z 50 (by omega)
  have e : (2 : Nat) ^ 50 = 1125899906842624 := by decide
  rw [e] at this
  simp at this
  omega
theorem long_last {ks : List Kd} {last : Kd} {b : Kd → Nat} {c : Nat} (h : LongK ks last) : W ks b c 100 = b last + ((nexts 101 100 last).map fun t => if t ≤ 100 then c else W ks b c t).sum := by
  obtain ⟨h1, h2, h3⟩ := h
  rw [W_eq (by omega), steps_of h3, at0, h3, h1]
theorem long_ways {ks : List Kd} {last : Kd} {s : Str} (h : LongK ks last) (hl : LastIs s last) : ways ks = .tup [.int (if s = "fail" then 0 else 65), .int (if s = "fail" then 4001 else 0)] := by
  have p := long_W (b := bP) (c := 1) (fun _ => rfl) h
  have f := long_W (b := bF) (c := 0) (fun _ => rfl) h
  rw [long_last h] at p f
  unfold ways
  cases hl
  · rw [if_neg (by decide), if_neg (by decide)]
    simp [bP, bF, nexts] at p f
    rw [f]
    simp
    omega
  · rw [if_pos rfl, if_pos rfl]
    simp [bP, bF, nexts] at p f
    rw [p]
    simp
    omega
  · rw [if_neg (by decide), if_neg (by decide)]
    simp [bP, bF, nexts] at p f
    rw [f]
    simp
    omega
theorem jump' {a : D} {x : Int} (h : 0 ≤ x) : RowIs (.tup [.str "jump", a, .int x]) (.jump x.toNat) := by
  obtain ⟨t, rfl⟩ := Int.eq_ofNat_of_zero_le h
  exact .jump
theorem test' {a b : D} {x : Int} (h : 0 ≤ x) : RowIs (.tup [.str "test", a, b, .int x]) (.test x.toNat) := by
  obtain ⟨t, rfl⟩ := Int.eq_ofNat_of_zero_le h
  exact .test
def ded : List Nat → List Nat → List Nat
  | acc, [] => acc
  | acc, t :: ts => ded (if t ∈ acc then acc else acc ++ [t]) ts
theorem nats_append {a b : List Nat} : nats (a ++ b) = nats a ++ nats b := by simp [nats]
theorem nats_len {a : List Nat} : (nats a).length = a.length := by simp [nats]
theorem nats_flat {a : List Nat} : (nats a).all D.flat = true := by
  induction a with
  | nil => rfl
  | cons t a ih => simpa [nats, D.flat] using ih
theorem nats_any {a : List Nat} {t : Nat} : ((nats a).any fun y => eqF y (.int (t : Nat))) = true ↔ t ∈ a := by
  induction a with
  | nil => simp [nats]
  | cons u a ih =>
    show (((u : Nat) : Int) == ((t : Nat) : Int) || (nats a).any fun y => eqF y (.int (t : Nat))) = true ↔ _
    rw [Bool.or_eq_true, ih, List.mem_cons, beq_iff_eq]
    have e : ((u : Nat) : Int) = (t : Nat) ↔ t = u := by omega
    rw [e]
theorem RowIs.head {d : D} {k : Kd} (h : RowIs d k) : ∃ s r, d = .tup (.str s :: r) ∧ (s = "fail" ↔ k = .fail) ∧ (s = "return" ↔ k = .ret) := by
  cases h with
  | ret => exact ⟨_, _, rfl, by constructor <;> intro h <;> simp_all <;> exact absurd h (by decide), by simp⟩
  | fail => exact ⟨_, _, rfl, by simp, by constructor <;> intro h <;> simp_all <;> exact absurd h (by decide)⟩
  | jump => exact ⟨_, _, rfl, by constructor <;> intro h <;> simp_all <;> exact absurd h (by decide), by constructor <;> intro h <;> simp_all <;> exact absurd h (by decide)⟩
  | test => exact ⟨_, _, rfl, by constructor <;> intro h <;> simp_all <;> exact absurd h (by decide), by constructor <;> intro h <;> simp_all <;> exact absurd h (by decide)⟩
  | other h1 h2 h3 h4 => exact ⟨_, _, rfl, by simp [h2], by simp [h1]⟩
theorem snoc_or (l : List Nat) : l = [] ∨ ∃ a s, l = a ++ [s] := by
  by_cases h : l = []
  · exact .inl h
  · exact .inr ⟨l.dropLast, l.getLast h, (List.dropLast_concat_getLast h).symm⟩
end K50

set_option Elab.async false
set_option maxRecDepth 100000
set_option linter.all false
set_option maxHeartbeats 4000000
namespace K54
open PySem L2 VH K50
def topS (i : Nat) : Stmt := PySem.Challenge.pw_sworncode_k54_too_many_ways.main.body.getD i (.Pass ⟨0, 0, 0, 0⟩)
def inClass (st : Stmt) (i : Nat) : Stmt := match st with
  | .ClassDef _ _ _ body .. => body.getD i (.Pass ⟨0, 0, 0, 0⟩)
  | _ => .Pass ⟨0, 0, 0, 0⟩
/-- the facts of the top -/
structure Txt (K : PySem.W.Frag) (mg : Str → Option Value) (Cs : List Addr) : Prop where
  n_len : mg "len" = none
  n_range : mg "range" = none
  n_reversed : mg "reversed" = none
  n_min : mg "min" = none
  n_max : mg "max" = none
  n_tuple : mg "tuple" = none
  n_sum : mg "sum" = none
  n_repr : mg "repr" = none
  n_int : mg "int" = none
  n_abs : mg "abs" = none
  n_enumerate : mg "enumerate" = none
  n_sorted : mg "sorted" = none
  n_list : mg "list" = none
  n_zip : mg "zip" = none
  n_type : mg "type" = none
  n_set : mg "set" = none
  n_str : mg "str" = none
  n_bool : mg "bool" = none
  n_all : mg "all" = none
  n_isinstance : mg "isinstance" = none
  at_name : ∀ C ∈ Cs, Att K C "name"
  at_parameters : ∀ C ∈ Cs, Att K C "parameters"
  at_needs : ∀ C ∈ Cs, Att K C "needs"
  at_gives : ∀ C ∈ Cs, Att K C "gives"
  at_falls : ∀ C ∈ Cs, Att K C "falls"
  at_changes : ∀ C ∈ Cs, Att K C "changes"
  at_uses : ∀ C ∈ Cs, Att K C "uses"
  at_registers : ∀ C ∈ Cs, Att K C "registers"
  at_rows : ∀ C ∈ Cs, Att K C "rows"
  g_MOST_WAYS : ∃ t, mg "MOST_WAYS" = some (.int 64 t)
  g_MOST_FAILING_WAYS : ∃ t, mg "MOST_FAILING_WAYS" = some (.int 4000 t)
  g_MOST_LETTERS : ∃ t, mg "MOST_LETTERS" = some (.int 12 t)
  g_MOST_NUMBER : ∃ t, mg "MOST_NUMBER" = some (.int 9999 t)
  g_MOST_OF_A_KIND : ∃ t, mg "MOST_OF_A_KIND" = some (.int 4 t)
  g_MOST_REGISTERS : ∃ t, mg "MOST_REGISTERS" = some (.int 24 t)
  g_MOST_TOLD : ∃ t, mg "MOST_TOLD" = some (.int 8 t)
  g_MOST_ROWS : ∃ t, mg "MOST_ROWS" = some (.int 240 t)
  g_LETTERS : ∃ t, mg "LETTERS" = some (.str "abcdefghijklmnopqrstuvwxyz" t)
def strD (l : List Str) : List D := l.map fun x => .str x
def lastD : D := .tup (strD ["return", "jump", "fail"])
def compD : D := .tup (strD ["<", "<=", ">", ">=", "==", "!="])
def reservedD : D := .tup (strD ["proc", "list", "needs", "gives", "keeps", "falls", "from", "to", "let", "while", "if", "else", "end", "choose", "check", "call", "swap", "return", "skip", "and", "or", "not", "all", "sorted", "below", "either", "len", "old", "moves", "result"])
structure Txu (K : PySem.W.Frag) (mg : Str → Option Value) (Cs Ss : List Addr) (aL aC aR aH : Addr) : Prop extends Txt K mg Cs where
  at_numbers : ∀ C ∈ Ss, Att K C "numbers"
  at_lists : ∀ C ∈ Ss, Att K C "lists"
  at_olds : ∀ C ∈ Ss, Att K C "olds"
  g_LAST : mg "LAST" = some (.ref aL)
  d_LAST : ∀ F, Rv K F (.ref aL) lastD
  g_COMPARING : mg "COMPARING" = some (.ref aC)
  d_COMPARING : ∀ F, Rv K F (.ref aC) compD
  g_RESERVED : mg "RESERVED" = some (.ref aR)
  d_RESERVED : ∀ F, Rv K F (.ref aR) reservedD
  g_Head : mg "Head" = some (.ref aH)
/-- a unit whose rows are ks -/
def UnitIs (Cs : List Addr) (u : D) (ks : List Kd) : Prop := ∃ C gs rows, u = .obj C gs ∧ C ∈ Cs ∧ fldD gs "rows" = some (.tup rows) ∧ RowsAre rows ks
def wfSteps (Cs : List Addr) : WF := fun _ ds _ Q => ∃ u ks, ∃ at_ : Nat, ds = [u, .int at_] ∧ UnitIs Cs u ks ∧ at_ < ks.length ∧ Q (.nw (nats (steps ks at_)))
def wfNext (Cs : List Addr) : WF := fun _ ds _ Q => ∃ u ks, ∃ at_ : Nat, ds = [u, .int at_] ∧ UnitIs Cs u ks ∧ at_ < ks.length ∧ Q (.nw (nats (ded [] (steps ks at_))))
def wfBack : WF := fun _ ds _ Q => ∃ a b : Int, ds = [.int a, .int b] ∧ Q (.sh (.bl (decide (b ≤ a))))
def wfCount (Cs : List Addr) : WF := fun _ ds _ Q => ∃ u ks, ds = [u] ∧ UnitIs Cs u ks ∧ GoodG ks ∧ 0 < ks.length ∧ ks.length < 100000 ∧ Q (.sh (ways ks))
end K54

set_option Elab.async false
set_option maxRecDepth 100000
set_option linter.all false
set_option maxHeartbeats 4000000
namespace K54
open PySem L2 VH K50
local macro_rules | `(tactic| walk_at "w") => `(tactic| conv => whnf)
local macro_rules | `(tactic| walk_at "s") => `(tactic| first | assumption | decide | omega | rfl | exact (show (0 : Int) < _ from by decide) | exact ⟨by decide, by decide⟩ | exact nats_flat | exact Or.inl (Or.inl ⟨by decide, by decide⟩) | exact Or.inl (Or.inr ⟨by decide, by decide⟩) | exact Nat.le_of_ble_eq_true rfl | exact line_le (by simp; omega) | exact line_lt (by simp; omega) | exact line_lt (by omega) | exact line_le (by omega))
local macro_rules | `(tactic| walk_at "v") => `(tactic| first
  | (refine And.intro (by walk_at "s") ?_)
  | (refine gOpt_in (by assumption) ?_)
  | (refine dec_yes (dec_t (by first | assumption | omega)) ?_)
  | (refine dec_no (dec_f (by first | assumption | omega)) ?_))
local macro_rules | `(tactic| walk_at "u") => `(tactic| (conv => whnf); repeat ((walk_at "v"); (conv => whnf)))
abbrev s_steps_from : Stmt := topS 7
theorem sc_steps_from : FnScope ["unit", "at", "row", "found"] ["unit", "at"] (defScope s_steps_from) := ⟨rfl, rfl, rfl, by decide +kernel, rfl, by decide +kernel, by decide +kernel⟩
abbrev s_next_rows : Stmt := topS 8
theorem sc_next_rows : FnScope ["unit", "at", "found", "target"] ["unit", "at"] (defScope s_next_rows) := ⟨rfl, rfl, rfl, by decide +kernel, rfl, by decide +kernel, by decide +kernel⟩
abbrev s_is_back : Stmt := topS 9
theorem sc_is_back : FnScope ["at", "target"] ["at", "target"] (defScope s_is_back) := ⟨rfl, rfl, rfl, by decide +kernel, rfl, by decide +kernel, by decide +kernel⟩
section
variable {P : Program} {w : World} {K : PySem.W.Frag} {mg : Str → Option Value} {base : Heap} {Cs : List Addr}
theorem ok_steps_from {f : Addr} {fd : FuncData} (T : Txt K mg Cs) (F : Fun K "steps_from" "steps_from" s_steps_from f fd) : FnG P w K mg base 1 f fd ["unit", "at"] (spV K (wfSteps Cs)) := by
  refine def_ok F sc_steps_from (fun R ds Xn Q' h => ?_) fun R cdv A outer s H E hg hr hp => ⟨_, _, (b_cons (s_set 2 sc_steps_from.nd (v_ix hr (v_fld T.at_rows (v_var 0)) (v_var 1)))
  (b_cons (s_if (t_cmp (c_in hr) (v_ix hr (v_var 2) v_int) (v_tup (a_cons v_str (a_cons v_str a_nil))))
  (b_one (s_ret (v_lst a_nil)))
  b_nil)
  (b_cons (s_if (t_cmp (c_eq hr) (v_ix hr (v_var 2) v_int) v_str)
  (b_one (s_ret (v_lst (a_cons (v_ix hr (v_var 2) v_int) a_nil))))
  b_nil)
  (b_cons (s_set 3 sc_steps_from.nd (v_if (t_cmp c_lt (v_add (v_var 1) v_int) (v_b1 cr_lenA unw_len T.n_len PySem.boot_len (v_fld T.at_rows (v_var 0)))) (v_lst (a_cons (v_add (v_var 1) v_int) a_nil)) (v_lst a_nil)))
  (b_cons (s_if (t_cmp (c_eq hr) (v_ix hr (v_var 2) v_int) v_str)
  (b_one (s_app 3 (v_ix hr (v_var 2) v_int)))
  b_nil)
  (b_one (s_retV 3))))))), fun ds Xn Q' h => ?_⟩
  · obtain ⟨u, ks, at_, rfl, _⟩ := h
    rfl
  · obtain ⟨u, ks, at_, rfl, ⟨C, gs, rows, rfl, hC, hrows, hks⟩, hat, q⟩ := h
    walk_at "u"
    obtain ⟨k, hk⟩ : ∃ k, ks[at_]? = some k := ⟨_, List.getElem?_eq_getElem hat⟩
    obtain ⟨r, hr1, hr2⟩ := hks.get hk
    refine ix_in rfl hr1 ?_
    cases hr2 with
    | ret =>
      walk_at "u"
      simpa [steps, hk, nexts, nats] using q
    | fail =>
      walk_at "u"
      simpa [steps, hk, nexts, nats] using q
    | jump =>
      walk_at "u"
      simpa [steps, hk, nexts, nats] using q
    | test =>
      walk_at "u"
      have e := hks.length
      refine dec_in (fun h => ?_) fun h => ?_
      · have h' := of_decide_eq_true h
        walk_at "u"
        simpa [steps, hk, nexts, nats, show at_ + 1 < ks.length by omega] using q
      · have h' : ¬ at_ + 1 < ks.length := fun z => h (dec_t (by omega))
        walk_at "u"
        simpa [steps, hk, nexts, nats, show ¬ at_ + 1 < ks.length by omega] using q
    | other h1 h2 h3 h4 =>
      walk_at "u"
      refine dec_no (by simp [eqF, Rs.val, h1.symm, h2.symm]) ?_
      walk_at "u"
      have e := hks.length
      refine dec_in (fun h => ?_) fun h => ?_
      · have h' := of_decide_eq_true h
        walk_at "u"
        simpa [steps, hk, nexts, nats, show at_ + 1 < ks.length by omega] using q
      · have h' : ¬ at_ + 1 < ks.length := fun z => h (dec_t (by omega))
        walk_at "u"
        simpa [steps, hk, nexts, nats, show ¬ at_ + 1 < ks.length by omega] using q
theorem ok_next_rows {f : Addr} {fd : FuncData} (T : Txt K mg Cs) (F : Fun K "next_rows" "next_rows" s_next_rows f fd)
    {f1 : Addr} {d1 : FuncData} (F_steps_from : FnG P w K mg base 1 f1 d1 ["unit", "at"] (spV K (wfSteps Cs))) (G_steps_from : Glob K mg "steps_from" f1 d1 ["unit", "at"]) : FnG P w K mg base 2 f fd ["unit", "at"] (spV K (wfNext Cs)) := by
  refine def_ok F sc_next_rows (fun R ds Xn Q' h => ?_) fun R cdv A outer s H E hg hr hp => ⟨_, _, (b_cons (s_set 2 sc_next_rows.nd (v_lst a_nil))
  (b_cons (s_for (passes_of rfl) rfl (i_seq (v_call F_steps_from G_steps_from hg (hr.mono (by decide)) hp (a_cons (v_var 0) (a_cons (v_var 1) a_nil)))) (g_name 3 sc_next_rows.nd)
  (b_one (s_if (t_cmp (c_notIn hr) (v_var 3) (v_var 2))
  (b_one (s_app 2 (v_var 3)))
  b_nil)))
  (b_one (s_retV 2)))), fun ds Xn Q' h => ?_⟩
  · obtain ⟨u, ks, at_, rfl, _⟩ := h
    rfl
  · obtain ⟨u, ks, at_, rfl, hu, hat, q⟩ := h
    walk_at "u"
    refine ⟨_, ks, at_, rfl, hu, hat, ?_⟩
    walk_at "u"
    refine forW_ind (fun ts env => ∃ tl acc s, ts = nats tl ∧ env = [.sh u, .sh (.int at_), .ow (nats acc), s] ∧ ded acc tl = ded [] (steps ks at_) ∧ acc.length + tl.length ≤ 2) ?_ ?_ ⟨steps ks at_, [], .un, rfl, rfl, rfl, by simpa using steps_two⟩
    · rintro env ⟨tl, acc, s, e1, rfl, hd, hl⟩
      cases tl with
      | cons t tl => cases e1
      | nil =>
        walk_at "u"
        rw [show acc = ded [] (steps ks at_) from hd]
        exact q
    · rintro d ds env ⟨tl, acc, s, e1, rfl, hd, hl⟩ ih
      cases tl with
      | nil => cases e1
      | cons t tl =>
        cases e1
        simp only [List.length_cons] at hl
        walk_at "u"
        by_cases hm : t ∈ acc
        · refine dec_no ?_ ?_
          · show ¬ (!((nats acc).any fun y => eqF y (.int (t : Nat)))) = true
            rw [nats_any.mpr hm]
            decide
          · walk_at "u"
            exact ih _ ⟨tl, acc, _, rfl, rfl, by rw [← hd]; simp [ded, hm], by omega⟩
        · refine dec_yes ?_ ?_
          · show (!((nats acc).any fun y => eqF y (.int (t : Nat)))) = true
            rw [Bool.not_eq_true', ← Bool.not_eq_true, nats_any]
            exact hm
          · walk_at "u"
            refine ⟨line_lt (by rw [nats_len]; omega), ?_⟩
            walk_at "u"
            refine ih _ ⟨tl, acc ++ [t], .sh (.int (t : Nat)), rfl, ?_, by rw [← hd]; simp [ded, hm], by simp; omega⟩
            rw [nats_append]
            rfl
theorem ok_is_back {f : Addr} {fd : FuncData} (F : Fun K "is_back" "is_back" s_is_back f fd) : FnG P w K mg base 1 f fd ["at", "target"] (spV K wfBack) := by
  refine def_ok F sc_is_back (fun R ds Xn Q' h => ?_) fun R cdv A outer s H E hg hr hp => ⟨_, _, (b_one (s_ret (v_cmp c_le (v_var 1) (v_var 0)))), fun ds Xn Q' h => ?_⟩
  · obtain ⟨a, b, rfl, _⟩ := h
    rfl
  · obtain ⟨a, b, rfl, q⟩ := h
    walk_at "u"
    exact q
end
end K54

set_option Elab.async false
set_option maxRecDepth 100000
set_option linter.all false
set_option maxHeartbeats 4000000
namespace K54
open PySem L2 VH K50
local macro_rules | `(tactic| walk_at "w") => `(tactic| conv => whnf)
local macro_rules | `(tactic| walk_at "s") => `(tactic| first | assumption | decide | omega | rfl | exact (show (0 : Int) < _ from by decide) | exact ⟨by decide, by decide⟩ | exact nats_flat | exact Or.inl (Or.inl ⟨by decide, by decide⟩) | exact Or.inl (Or.inr ⟨by decide, by decide⟩) | exact Nat.le_of_ble_eq_true rfl | exact line_le (by simp; omega) | exact line_lt (by simp; omega) | exact line_lt (by omega) | exact line_le (by omega))
local macro_rules | `(tactic| walk_at "v") => `(tactic| first
  | (refine And.intro (by walk_at "s") ?_)
  | (refine gOpt_in (by assumption) ?_)
  | (refine dec_yes (dec_t (by first | assumption | omega)) ?_)
  | (refine dec_no (dec_f (by first | assumption | omega)) ?_)
  | (refine dec_yes (dec_nt (by first | assumption | omega)) ?_)
  | (refine dec_no (dec_nf (by first | assumption | omega)) ?_))
local macro_rules | `(tactic| walk_at "u") => `(tactic| (conv => whnf); repeat ((walk_at "v"); (conv => whnf)))

--opts {"cut": [("count_ways", "if unit.rows[at][0] == 'fail':")]}
abbrev s_count_ways : Stmt := topS 10
theorem sc_count_ways : FnScope ["unit", "_", "plain", "failing", "at", "targets", "target"] ["unit"] (defScope s_count_ways) := ⟨rfl, rfl, rfl, by decide +kernel, rfl, by decide +kernel, by decide +kernel⟩
theorem bF_of {ks : List Kd} {j : Nat} {k : Kd} (h : ks[j]? = some k) : (k = .fail → at0 bF ks j = 1) ∧ (k ≠ .fail → at0 bF ks j = 0) := by
  unfold at0
  rw [h]
  cases k <;> simp [bF]
theorem bP_of {ks : List Kd} {j : Nat} {k : Kd} (g : GoodG ks) (h : ks[j]? = some k) : (k = .fail → at0 bP ks j = 0) ∧ (k ≠ .fail → steps ks j = [] → at0 bP ks j = 1) ∧ (steps ks j ≠ [] → at0 bP ks j = 0) := by
  rw [steps_good g h]
  unfold at0
  rw [h]
  cases k <;> simp [bP, lnexts]
def Tab (p : List D) (j : Nat) (g : Nat → Nat) (n : Nat) : Prop := p.length = n + 1 ∧ ∀ i, i ≤ n → p[i]? = some (.int ((if i < j then 0 else g i : Nat) : Int))
def Mid (p : List D) (j : Nat) (g : Nat → Nat) (n a : Nat) : Prop := p.length = n + 1 ∧ p[j]? = some (.int (a : Int)) ∧ ∀ i, i ≤ n → i ≠ j → p[i]? = some (.int ((if i < j then 0 else g i : Nat) : Int))
theorem tab_init {n : Nat} {g : Nat → Nat} (h : g n = 0) : Tab (List.replicate n (.int 0) ++ [.int 0]) n g n := by
  refine ⟨by simp, fun i hi => ?_⟩
  by_cases c : i < n
  · rw [if_pos c, List.getElem?_append_left (by simpa using c), List.getElem?_replicate, if_pos c]
    rfl
  · have : i = n := by omega
    subst this
    rw [if_neg c, List.getElem?_append_right (by simp), h]
    simp
theorem Tab.mid {p : List D} {j n : Nat} {g : Nat → Nat} (h : Tab p (j + 1) g n) (hj : j ≤ n) : Mid p j g n 0 := by
  refine ⟨h.1, ?_, fun i hi ne => ?_⟩
  · rw [h.2 j hj, if_pos (by omega)]
  · rw [h.2 i hi]
    by_cases c : i < j
    · rw [if_pos c, if_pos (by omega)]
    · rw [if_neg c, if_neg (by omega)]
theorem Mid.set {p : List D} {j n a : Nat} {g : Nat → Nat} (h : Mid p j g n a) (hj : j ≤ n) (b : Nat) : Mid (p.set j (.int (b : Int))) j g n b := by
  refine ⟨by rw [List.length_set]; exact h.1, ?_, fun i hi ne => ?_⟩
  · rw [List.getElem?_set_self (by rw [h.1]; omega)]
  · rw [List.getElem?_set_ne (fun z => ne z.symm)]
    exact h.2.2 i hi ne
theorem Mid.tab {p : List D} {j n : Nat} {g : Nat → Nat} (h : Mid p j g n (g j)) : Tab p j g n := by
  refine ⟨h.1, fun i hi => ?_⟩
  by_cases c : i = j
  · subst c
    rw [if_neg (by omega)]
    exact h.2.1
  · exact h.2.2 i hi c
section
variable {P : Program} {w : World} {K : PySem.W.Frag} {mg : Str → Option Value} {base : Heap} {Cs : List Addr}
theorem ok_count_ways {f : Addr} {fd : FuncData} (T : Txt K mg Cs) (F : Fun K "count_ways" "count_ways" s_count_ways f fd)
    {f1 : Addr} {d1 : FuncData} (F_steps_from : FnG P w K mg base 1 f1 d1 ["unit", "at"] (spV K (wfSteps Cs))) (G_steps_from : Glob K mg "steps_from" f1 d1 ["unit", "at"])
    {f2 : Addr} {d2 : FuncData} (F_is_back : FnG P w K mg base 1 f2 d2 ["at", "target"] (spV K wfBack)) (G_is_back : Glob K mg "is_back" f2 d2 ["at", "target"]) : FnG P w K mg base 2 f fd ["unit"] (spV K (wfCount Cs)) := by
  refine def_ok F sc_count_ways (fun R ds Xn Q' h => ?_) fun R cdv A outer s H E hg hr hp => ⟨_, _, (b_cons (s_set 2 sc_count_ways.nd (v_add (v_lc rfl sc_count_ways.nd (i_seq (v_fld T.at_rows (v_var 0))) (own := [("_", 1)]) rfl (fun _ _ _ _ _ => (g_name 1 sc_count_ways.nd)) (fun _ _ _ _ _ => ts_nil) (fun _ _ _ _ _ => v_int)) (v_lst (a_cons v_int a_nil))))
  (b_cons (s_set 3 sc_count_ways.nd (v_add (v_lc rfl sc_count_ways.nd (i_seq (v_fld T.at_rows (v_var 0))) (own := [("_", 1)]) rfl (fun _ _ _ _ _ => (g_name 1 sc_count_ways.nd)) (fun _ _ _ _ _ => ts_nil) (fun _ _ _ _ _ => v_int)) (v_lst (a_cons v_int a_nil))))
  (b_cons (s_for (passes_of rfl) rfl (i_rev T.n_reversed T.n_range (v_b1 cr_lenA unw_len T.n_len PySem.boot_len (v_fld T.at_rows (v_var 0)))) (g_name 4 sc_count_ways.nd)
  (b_cons (s_set 5 sc_count_ways.nd (v_call F_steps_from G_steps_from hg (hr.mono (by decide)) hp (a_cons (v_var 0) (a_cons (v_var 4) a_nil))))
  (b_cut (s_if (t_cmp (c_eq hr) (v_ix hr (v_ix hr (v_fld T.at_rows (v_var 0)) (v_var 4)) v_int) v_str)
  (b_one (s_put 3 hr v_int (v_var 4)))
  (b_one (s_if (t_cmp (c_eq hr) (v_b1 cr_lenA unw_len T.n_len PySem.boot_len (v_var 5)) v_int)
  (b_one (s_put 2 hr v_int (v_var 4)))
  b_nil)))
  (b_frz 5 (b_one (s_for (passes_of rfl) rfl (i_seq (v_var 5)) (g_name 6 sc_count_ways.nd)
  (b_one (s_if (t_tru (v_call F_is_back G_is_back hg (hr.mono (by decide)) hp (a_cons (v_var 4) (a_cons (v_var 6) a_nil))))
  (b_one (s_augS 2 hr ip_add v_int (v_var 4)))
  (b_cons (s_augS 2 hr ip_add (v_ix hr (v_var 2) (v_var 6)) (v_var 4))
  (b_one (s_augS 3 hr ip_add (v_ix hr (v_var 3) (v_var 6)) (v_var 4))))))))))))
  (b_one (s_ret (v_tup (a_cons (v_b2 (call_min2 rfl) opw_min T.n_min (by decide +kernel) (v_ix hr (v_var 2) v_int) (v_add (v_gintE T.g_MOST_WAYS) v_int)) (a_cons (v_b2 (call_min2 rfl) opw_min T.n_min (by decide +kernel) (v_ix hr (v_var 3) v_int) (v_add (v_gintE T.g_MOST_FAILING_WAYS) v_int)) a_nil)))))))), fun ds Xn Q' h => ?_⟩
  · obtain ⟨u, ks, rfl, _⟩ := h
    rfl
  · obtain ⟨u, ks, rfl, hu, g, hn0, hn1, q⟩ := h
    have hu' := hu
    obtain ⟨C, gs, rows, rfl, hC, hrows, hks⟩ := hu'
    have e := hks.length
    clear hg hr hp T F
    walk_at "u"
    refine lcW_ind (fun ds acc => ∃ m, acc = List.replicate m (.int 0) ∧ m + ds.length = ks.length) ?_ ?_ ⟨0, rfl, by omega⟩
    rotate_left
    · rintro d ds acc ⟨m, rfl, hm⟩ ih
      walk_at "u"
      exact ih _ ⟨m + 1, by rw [List.replicate_succ'], by simp at hm; omega⟩
    rintro acc ⟨m, rfl, hm⟩
    obtain rfl : m = ks.length := by simpa using hm
    walk_at "u"
    refine lcW_ind (fun ds acc => ∃ m, acc = List.replicate m (.int 0) ∧ m + ds.length = ks.length) ?_ ?_ ⟨0, rfl, by omega⟩
    rotate_left
    · rintro d ds acc ⟨m, rfl, hm⟩ ih
      walk_at "u"
      exact ih _ ⟨m + 1, by rw [List.replicate_succ'], by simp at hm; omega⟩
    rintro acc ⟨m, rfl, hm⟩
    obtain rfl : m = ks.length := by simpa using hm
    walk_at "u"
    refine forW_ind (fun ds env => ∃ j, ds = (rgs 0 j).reverse ∧ j ≤ ks.length ∧ ∃ p f s1 s4 s5 s6, env = [.sh (.obj C gs), s1, .ow p, .ow f, s4, s5, s6] ∧ Tab p j (W ks bP 1) ks.length ∧ Tab f j (W ks bF 0) ks.length) ?_ ?_
      ⟨ks.length, by rw [← rngD_rgs, ← e]; rfl, Nat.le_refl _, _, _, _, _, _, _, rfl, tab_init (W_out (Nat.le_refl _)), tab_init (W_out (Nat.le_refl _))⟩
    · rintro env ⟨j, e1, hj, p, f, s1, s4, s5, s6, rfl, tp, tf⟩
      obtain rfl : j = 0 := by
        cases j with
        | zero => rfl
        | succ j => rw [rev_succ] at e1; cases e1
      have p0 := tp.2 0 (by omega)
      have f0 := tf.2 0 (by omega)
      rw [if_neg (by omega)] at p0 f0
      walk_at "u"
      intro x x1 x2 x3
      walk_at "u"
      intro y y1 y2 y3
      walk_at "u"
      exact eqQ q (congrArg _ (ways_of x1 (by omega) (by omega) y1 (by omega) (by omega)))
    · rintro d ds env ⟨j, e1, hj, p, f, s1, s4, s5, s6, rfl, tp, tf⟩ ih
      cases j with
      | zero => cases e1
      | succ j =>
      rw [rev_succ] at e1
      obtain ⟨rfl, rfl⟩ := List.cons.inj e1
      have mp := tp.mid (by omega)
      have mf := tf.mid (by omega)
      have ip : ixJ p.length (j : Int) = some j := ixJ_nat (by rw [mp.1]; omega)
      have jf : ixJ f.length (j : Int) = some j := ixJ_nat (by rw [mf.1]; omega)
      walk_at "u"
      refine ⟨_, ks, j, rfl, hu, by omega, ?_⟩
      walk_at "u"
      obtain ⟨k, hk⟩ : ∃ k, ks[j]? = some k := ⟨_, List.getElem?_eq_getElem (by omega)⟩
      obtain ⟨r, hr1, hr2⟩ := hks.get hk
      obtain ⟨hs, hrr, rfl, hf, hret⟩ := hr2.head
      refine ⟨fun env => ∃ p f, env = [.sh (.obj C gs), s1, .ow p, .ow f, .sh (.int (j : Nat)), .ow (nats (steps ks j)), s6] ∧ Mid p j (W ks bP 1) ks.length (at0 bP ks j) ∧ Mid f j (W ks bF 0) ks.length (at0 bF ks j), ?_, ?_⟩
      · have hrj : ixD rows (j : Int) = some (.tup (.str hs :: hrr)) := by rw [ixD_nat]; exact hr1
        have bp := bP_of g hk
        have bf := bF_of hk
        by_cases kf : hs = "fail"
        · have kf' := hf.mp kf
          walk_at "u"
          refine ⟨_, _, rfl, ?_, ?_⟩
          · rw [bp.1 kf']; exact mp
          · rw [bf.1 kf']; exact mf.set (by omega) 1
        · have kf' : k ≠ .fail := fun z => kf (hf.mpr z)
          by_cases hs0 : steps ks j = []
          · have ln : (nats (steps ks j)).length = 0 := by rw [hs0]; rfl
            walk_at "u"
            refine ⟨_, _, rfl, ?_, ?_⟩
            · rw [bp.2.1 kf' hs0]; exact mp.set (by omega) 1
            · rw [bf.2 kf']; exact mf
          · have ln : (nats (steps ks j)).length ≠ 0 := by rw [nats_len]; intro z; exact hs0 (List.length_eq_zero_iff.mp z)
            walk_at "u"
            refine ⟨_, _, rfl, ?_, ?_⟩
            · rw [bp.2.2 hs0]; exact mp
            · rw [bf.2 kf']; exact mf
      · rintro env ⟨p, f, rfl, mp, mf⟩
        walk_at "w"
        refine forW_ind (fun ts env => ∃ tl p f a b s6, ts = nats tl ∧ env = [.sh (.obj C gs), s1, .ow p, .ow f, .sh (.int (j : Nat)), .sh (.lst (nats (steps ks j))), s6] ∧ Mid p j (W ks bP 1) ks.length a ∧ Mid f j (W ks bF 0) ks.length b ∧ (∀ t ∈ tl, t < ks.length) ∧
          a + (tl.map fun t => if t ≤ j then 1 else W ks bP 1 t).sum = W ks bP 1 j ∧ b + (tl.map fun t => if t ≤ j then 0 else W ks bF 0 t).sum = W ks bF 0 j) ?_ ?_
          ⟨steps ks j, p, f, _, _, s6, rfl, rfl, mp, mf, fun t h => steps_lt g h, (W_eq (by omega)).symm, (W_eq (by omega)).symm⟩
        · rintro env ⟨tl, p, f, a, b, s6, e2, rfl, mp, mf, hlt, ha, hb⟩
          cases tl with
          | cons t tl => cases e2
          | nil =>
            simp only [List.map_nil, List.sum_nil, Nat.add_zero] at ha hb
            subst ha
            subst hb
            exact ih _ ⟨j, rfl, by omega, p, f, _, _, _, _, rfl, mp.tab, mf.tab⟩
        · rintro d ds env ⟨tl, p, f, a, b, s6, e2, rfl, mp, mf, hlt, ha, hb⟩ ih2
          cases tl with
          | nil => cases e2
          | cons t tl =>
            cases e2
            simp only [List.map_cons, List.sum_cons] at ha hb
            have ht := hlt t (by simp)
            have hlt' : ∀ u ∈ tl, u < ks.length := fun u h => hlt u (by simp [h])
            have ip : ixJ p.length (j : Int) = some j := ixJ_nat (by rw [mp.1]; omega)
            have jf : ixJ f.length (j : Int) = some j := ixJ_nat (by rw [mf.1]; omega)
            have pj := mp.2.1
            have fj := mf.2.1
            by_cases c : t ≤ j
            · rw [if_pos c] at ha hb
              walk_at "u"
              refine ⟨_, _, rfl, ?_⟩
              walk_at "u"
              exact ih2 _ ⟨tl, _, f, a + 1, b, _, rfl, rfl, mp.set (by omega) (a + 1), mf, hlt', by omega, by omega⟩
            · rw [if_neg c] at ha hb
              have pt : ixD p (t : Int) = some (.int (W ks bP 1 t : Nat)) := by rw [ixD_nat, mp.2.2 t (by omega) (by omega), if_neg (by omega)]
              have ft : ixD f (t : Int) = some (.int (W ks bF 0 t : Nat)) := by rw [ixD_nat, mf.2.2 t (by omega) (by omega), if_neg (by omega)]
              walk_at "u"
              refine ⟨_, _, rfl, ?_⟩
              walk_at "u"
              exact ih2 _ ⟨tl, _, _, a + W ks bP 1 t, b + W ks bF 0 t, _, rfl, rfl, mp.set (by omega) (a + W ks bP 1 t), mf.set (by omega) (b + W ks bF 0 t), hlt', by omega, by omega⟩
end
end K54

set_option Elab.async false
set_option maxRecDepth 100000
set_option linter.all false
set_option maxHeartbeats 4000000
namespace K54
open PySem L2 VH K50
local macro_rules | `(tactic| walk_at "w") => `(tactic| conv => whnf)
local macro_rules | `(tactic| walk_at "s") => `(tactic| first | assumption | decide | omega | rfl | exact (show (0 : Int) < _ from by decide) | exact ⟨by decide, by decide⟩ | exact nats_flat | exact Or.inl (Or.inl ⟨by decide, by decide⟩) | exact Or.inl (Or.inr ⟨by decide, by decide⟩) | exact Nat.le_of_ble_eq_true rfl | exact line_le (by simp; omega) | exact line_lt (by simp; omega) | exact line_lt (by omega) | exact line_le (by omega))
local macro_rules | `(tactic| walk_at "v") => `(tactic| first
  | (refine And.intro (by walk_at "s") ?_)
  | (refine gOpt_in (by assumption) ?_)
  | (refine dec_yes (dec_t (by first | assumption | omega)) ?_)
  | (refine dec_no (dec_f (by first | assumption | omega)) ?_))
local macro_rules | `(tactic| walk_at "u") => `(tactic| (conv => whnf); repeat ((walk_at "v"); (conv => whnf)))
abbrev s__law_well : Stmt := topS 76
theorem sc__law_well : FnScope ["script", "cell", "cells"] ["script"] (defScope s__law_well) := ⟨rfl, rfl, rfl, by decide +kernel, rfl, by decide +kernel, by decide +kernel⟩
abbrev s__law_draw : Stmt := topS 77
theorem sc__law_draw : FnScope ["well", "many", "cells", "at", "cell", "mixed"] ["well", "many"] (defScope s__law_draw) := ⟨rfl, rfl, rfl, by decide +kernel, rfl, by decide +kernel, by decide +kernel⟩
theorem ok__law_well {P : Program} {w : World} {K : PySem.W.Frag} {mg : Str → Option Value} {base : Heap} {Cs : List Addr} {f : Addr} {fd : FuncData} (T : Txt K mg Cs) (F : Fun K "_law_well" "_law_well" s__law_well f fd) : FnG P w K mg base 1 f fd ["script"] (spWell K) := by
  refine well_imp (def_ok F sc__law_well (fun R ds Xn Q' h => ?_) fun R cdv A outer s H E hg hr hp => ⟨_, _, (b_cons (s_setLc 2 rfl sc__law_well.nd (i_seq (v_var 0)) (own := [("cell", 1)]) rfl (fun _ _ _ _ _ => (g_name 1 sc__law_well.nd)) (fun _ _ _ _ _ => ts_nil) (fun _ _ _ _ _ => (v_add (v_mul v_int (v_b1 call_abs unw_abs T.n_abs PyProof.Rows.boot_abs (v_t1 call_int1 unw_int T.n_int (by decide +kernel) (v_var 1)))) (v_t1 call_int1 unw_int T.n_int (by decide +kernel) (v_cmp c_lt (v_var 1) v_int)))) (sw_true rfl rfl rfl (by decide +kernel)))
  (b_one (s_ret (v_lst (a_cons (v_add (v_var 2) (v_lst (a_cons (v_b1 cr_lenA unw_len T.n_len PySem.boot_len (v_var 2)) a_nil))) (a_cons v_int (a_cons v_int (a_cons v_int a_nil)))))))), fun ds Xn Q' h => ?_⟩)
  · obtain ⟨ns, rfl, _⟩ := h
    rfl
  · obtain ⟨ns, rfl, hl, q⟩ := h
    walk_at "w"
    refine ⟨line_le (by simp; omega), ?_⟩
    refine lcW_ind (fun ds acc => ∃ rest cs : List Int, ds = rest.map D.int ∧ acc = cs.map D.int ∧ rest.length + cs.length = ns.length) ?_ ?_ ⟨ns, [], rfl, rfl, rfl⟩
    · rintro acc ⟨rest, cs, e1, rfl, hr⟩
      cases rest with
      | cons r rest => cases e1
      | nil =>
        have hr : cs.length = ns.length := by simpa using hr
        walk_at "u"
        simpa using q (cs ++ [(cs.length : Int)]) (by simp; omega)
    · rintro d ds acc ⟨rest, cs, e1, rfl, hr⟩ ih
      cases rest with
      | nil => cases e1
      | cons r rest =>
        cases e1
        walk_at "u"
        exact ih _ ⟨rest, cs ++ [(2 * if r < 0 then -r else r) + if decide (r < 0) = true then 1 else 0], rfl, by rw [List.map_append]; rfl, by simp at hr ⊢; omega⟩
theorem ok__law_draw {P : Program} {w : World} {K : PySem.W.Frag} {mg : Str → Option Value} {base : Heap} {Cs : List Addr} {f : Addr} {fd : FuncData} (T : Txt K mg Cs) (F : Fun K "_law_draw" "_law_draw" s__law_draw f fd) : FnG P w K mg base 1 f fd ["well", "many"] (spV K wfDraw) := by
  refine fnG_of F sc__law_draw (fun vs H Q E h => ?_) fun cdv A outer s H vs Q E hg hr h => ?_
  · obtain ⟨R, F, ds, Xn, Q', o, r, _, _, p, q, n, _, rfl, _⟩ := h
    rw [r.length]
    rfl
  · obtain ⟨R, Fz, ds, Xn, Q', o, r, _, k, p, q, n, rfl, rfl, hn, hn2, hq⟩ := h
    have hp := passG (P := P) (w := w) (K := K) (mg := mg) (base := base) (N := ["well", "many", "cells", "at", "cell", "mixed"]) (qual := "_law_draw") (scope := defScope s__law_draw) (f := f) (cdv := cdv) (A := A) (outer := outer) (s := s) (H := H) (E := E)
    have V := fun (R : Res) => ((b_cons (s_set 2 sc__law_draw.nd (v_ix hr (v_var 0) v_int))
  (b_cons (s_set 3 sc__law_draw.nd (v_mod (v_t1 call_int1 unw_int T.n_int (by decide +kernel) (v_ix hr (v_var 0) v_int)) (v_b1 cr_lenA unw_len T.n_len PySem.boot_len (v_var 2))))
  (b_cons (s_set 4 sc__law_draw.nd (v_t1 call_int1 unw_int T.n_int (by decide +kernel) (v_ix hr (v_var 2) (v_var 3))))
  (b_cons (s_if (t_cmp c_ge (v_var 4) (v_pow v_int v_int))
  (b_cons (s_put 2 hr (v_fdiv (v_var 4) (v_var 1)) (v_var 3))
  (b_one (s_ret (v_mod (v_var 4) (v_var 1)))))
  b_nil)
  (b_cons (s_put 0 hr (v_add (v_ix hr (v_var 0) v_int) v_int) v_int)
  (b_cons (s_put 0 hr (v_add (v_ix hr (v_var 0) v_int) v_int) v_int)
  (b_cons (s_set 5 sc__law_draw.nd (v_mod (v_mul (v_add (v_add (v_mod (v_var 4) v_int) (v_mul (v_t1 call_int1 unw_int T.n_int (by decide +kernel) (v_ix hr (v_var 0) v_int)) v_int)) (v_t1 call_int1 unw_int T.n_int (by decide +kernel) (v_ix hr (v_var 0) v_int))) v_int) v_int))
  (b_cons (s_set 5 sc__law_draw.nd (v_mod (v_add (v_mul (v_var 5) (v_var 5)) v_int) v_int))
  (b_cons (s_put 0 hr (v_var 5) v_int)
  (b_one (s_ret (v_mod (v_fdiv (v_var 5) v_int) (v_var 1))))))))))))) : VB (cxOf (L2.CX P w) P w K mg base ["well", "many", "cells", "at", "cell", "mixed"] "_law_draw" (defScope s__law_draw) f cdv A outer s H E) R E (defBody s__law_draw) _ _)
    refine ⟨_, (V Res.no).p, ?_⟩
    clear V hp hr hg
    cases r with
    | cons r0 r =>
    cases r with
    | cons r1 r =>
    cases r
    cases r0
    cases r1
    obtain ⟨ne, a, b, c, cs, h1, h2, h3⟩ := o.j
    have done : ∀ (H' : Hp) (m : Int), WellJ p q H' → (∀ b, b ≠ p → b ≠ q → H' b = H b) → 0 ≤ m → m < n → Q (.int m) H' := fun H' m j same m0 m1 => by
      obtain ⟨o2, s2⟩ := well_step o j same
      exact k (.int m) (.sh (.int m)) Fz H' s2 o2 (Rv.int m) (hq m m0 m1)
    have len : 0 < cs.length := by cases cs <;> simp at h3 ⊢
    have a0 := Int.emod_nonneg a (show (cs.length : Int) ≠ 0 by omega)
    have a1 := Int.emod_lt_of_pos a (show (0 : Int) < cs.length by omega)
    obtain ⟨x, hx⟩ : ∃ x, cs[(a % cs.length).toNat]? = some x := ⟨_, List.getElem?_eq_getElem (by omega)⟩
    have hi : ixN (cs.map V.int).length (a % cs.length) = some (a % cs.length).toNat := by
      unfold ixN
      rw [if_pos a0, if_pos (by simp; omega)]
    have hat : atI (cs.map V.int) (a % cs.length) = some (V.int x) := by
      unfold atI
      rw [hi]
      show (cs.map V.int)[(a % cs.length).toNat]? = _
      rw [List.getElem?_map, hx]
      rfl
    have lg : n.natAbs.log2 < 9000 := by
      have e : n.natAbs < 2 ^ 60 := by omega
      have := (Nat.log2_lt (show n.natAbs ≠ 0 by omega)).mpr e
      omega
    walk_at "w"
    refine ⟨_, rfl, ?_⟩
    walk_at "w"
    refine .inl (.inl ⟨p, _, _, _, rfl, rfl, SqL.of h1, rfl, ?_⟩)
    walk_at "w"
    refine ⟨_, rfl, ?_⟩
    walk_at "w"
    refine .inl (.inl ⟨p, _, _, _, rfl, rfl, SqL.of h1, rfl, ?_⟩)
    walk_at "w"
    refine .inl ⟨_, rfl, ?_⟩
    walk_at "w"
    refine ⟨_, rfl, ?_⟩
    walk_at "w"
    refine .inl ⟨_, cs.length, rfl, .inl ⟨_, SqL.of h2, by simp⟩, ?_⟩
    walk_at "w"
    refine ⟨_, _, rfl, rfl, by show (0 : Int) < _; omega, ?_⟩
    walk_at "w"
    refine ⟨_, rfl, ?_⟩
    walk_at "w"
    refine ⟨_, rfl, ?_⟩
    walk_at "w"
    refine .inl (.inl ⟨q, _, _, _, rfl, rfl, SqL.of h2, hat, ?_⟩)
    walk_at "w"
    refine .inl ⟨_, rfl, ?_⟩
    walk_at "w"
    refine ⟨_, rfl, ?_⟩
    walk_at "w"
    refine ⟨_, _, rfl, rfl, ⟨by decide, by decide, by decide⟩, ?_⟩
    walk_at "w"
    refine ⟨_, _, rfl, rfl, ?_⟩
    walk_at "w"
    refine ⟨_, rfl, ?_⟩
    walk_at "w"
    refine dec_in (fun _ => ?_) fun _ => ?_
    · walk_at "w"
      refine ⟨_, rfl, ?_⟩
      walk_at "w"
      refine ⟨_, rfl, ?_⟩
      walk_at "w"
      refine ⟨_, _, rfl, rfl, ⟨hn, lg⟩, ?_⟩
      walk_at "w"
      refine ⟨_, rfl, ?_⟩
      walk_at "w"
      refine ⟨_, rfl, ?_⟩
      walk_at "w"
      refine .inl ⟨q, _, _, _, rfl, rfl, h2, hi, ?_⟩
      walk_at "w"
      refine ⟨_, rfl, ?_⟩
      walk_at "w"
      refine ⟨_, rfl, ?_⟩
      walk_at "w"
      refine ⟨_, _, rfl, rfl, hn, ?_⟩
      refine done _ _ ⟨ne, a, b, c, cs.set (a % cs.length).toNat (x / n), ?_, ?_, ?_⟩ (fun b e1 e2 => upd_ne e2) (Int.emod_nonneg _ (by omega)) (Int.emod_lt_of_pos _ hn)
      · rw [upd_ne ne]; exact h1
      · rw [upd_same, List.map_set]
      · intro z
        have := congrArg List.length z
        simp at this
        exact h3 this
    · walk_at "w"
      refine ⟨_, rfl, ?_⟩
      walk_at "w"
      refine .inl (.inl ⟨p, _, _, _, rfl, rfl, SqL.of h1, rfl, ?_⟩)
      walk_at "w"
      refine .inl ⟨_, _, rfl, rfl, ?_⟩
      walk_at "w"
      refine ⟨_, rfl, ?_⟩
      walk_at "w"
      refine .inl ⟨p, _, _, _, rfl, rfl, h1, rfl, ?_⟩
      walk_at "w"
      refine ⟨_, rfl, ?_⟩
      walk_at "w"
      refine .inl (.inl ⟨p, _, _, _, rfl, rfl, SqL.of upd_same, rfl, ?_⟩)
      walk_at "w"
      refine .inl ⟨_, _, rfl, rfl, ?_⟩
      walk_at "w"
      refine ⟨_, rfl, ?_⟩
      walk_at "w"
      refine .inl ⟨p, _, _, _, rfl, rfl, upd_same, rfl, ?_⟩
      walk_at "w"
      refine ⟨_, rfl, ?_⟩
      walk_at "w"
      refine ⟨_, _, rfl, rfl, by show (0 : Int) < _; decide, ?_⟩
      walk_at "w"
      refine ⟨_, rfl, ?_⟩
      walk_at "w"
      refine .inl (.inl ⟨p, _, _, _, rfl, rfl, SqL.of upd_same, rfl, ?_⟩)
      walk_at "w"
      refine .inl ⟨_, rfl, ?_⟩
      walk_at "w"
      refine ⟨_, _, rfl, rfl, .inl (.inr ⟨by decide, by decide⟩), ?_⟩
      walk_at "w"
      refine .inl ⟨_, _, rfl, rfl, ?_⟩
      walk_at "w"
      refine ⟨_, rfl, ?_⟩
      walk_at "w"
      refine .inl (.inl ⟨p, _, _, _, rfl, rfl, SqL.of upd_same, rfl, ?_⟩)
      walk_at "w"
      refine .inl ⟨_, rfl, ?_⟩
      walk_at "w"
      refine .inl ⟨_, _, rfl, rfl, ?_⟩
      walk_at "w"
      refine ⟨_, _, rfl, rfl, .inl (.inr ⟨by decide, by decide⟩), ?_⟩
      walk_at "w"
      refine ⟨_, _, rfl, rfl, by show (0 : Int) < _; decide, ?_⟩
      walk_at "w"
      refine ⟨_, rfl, ?_⟩
      walk_at "w"
      refine ⟨_, rfl, ?_⟩
      walk_at "w"
      refine ⟨_, _, rfl, rfl, sq_ok _, ?_⟩
      walk_at "w"
      refine .inl ⟨_, _, rfl, rfl, ?_⟩
      walk_at "w"
      refine ⟨_, _, rfl, rfl, by show (0 : Int) < _; decide, ?_⟩
      walk_at "w"
      refine ⟨_, rfl, ?_⟩
      walk_at "w"
      refine ⟨_, rfl, ?_⟩
      walk_at "w"
      refine .inl ⟨p, _, _, _, rfl, rfl, upd_same, rfl, ?_⟩
      walk_at "w"
      refine ⟨_, rfl, ?_⟩
      walk_at "w"
      refine ⟨_, _, rfl, rfl, ⟨by decide, by decide⟩, ?_⟩
      walk_at "w"
      refine ⟨_, rfl, ?_⟩
      walk_at "w"
      refine ⟨_, _, rfl, rfl, hn, ?_⟩
      refine done _ _ ⟨ne, _, _, _, cs, by rw [upd_same]; rfl, ?_, h3⟩ (fun b e1 e2 => ?_) (Int.emod_nonneg _ (by omega)) (Int.emod_lt_of_pos _ hn)
      · rw [upd_ne ne.symm, upd_ne ne.symm, upd_ne ne.symm]; exact h2
      · rw [upd_ne e1, upd_ne e1, upd_ne e1]
end K54

set_option Elab.async false
set_option maxRecDepth 100000
set_option linter.all false
set_option maxHeartbeats 4000000
namespace K54
open PySem L2 VH K50
local macro_rules | `(tactic| walk_at "w") => `(tactic| conv => whnf)
local macro_rules | `(tactic| walk_at "s") => `(tactic| first | assumption | decide | omega | rfl | exact (show (0 : Int) < _ from by decide) | exact ⟨by decide, by decide⟩ | exact nats_flat | exact Or.inl (Or.inl ⟨by decide, by decide⟩) | exact Or.inl (Or.inr ⟨by decide, by decide⟩) | exact Nat.le_of_ble_eq_true rfl | exact line_le (by simp; omega) | exact line_lt (by simp; omega) | exact line_lt (by omega) | exact line_le (by omega))
local macro_rules | `(tactic| walk_at "v") => `(tactic| first
  | (refine And.intro (by walk_at "s") ?_)
  | (refine gOpt_in (by assumption) ?_)
  | (refine dec_yes (dec_t (by first | assumption | omega)) ?_)
  | (refine dec_no (dec_f (by first | assumption | omega)) ?_)
  | (refine dec_yes (dec_nt (by first | assumption | omega)) ?_)
  | (refine dec_no (dec_nf (by first | assumption | omega)) ?_))
local macro_rules | `(tactic| walk_at "u") => `(tactic| (conv => whnf); repeat ((walk_at "v"); (conv => whnf)))

--opts {}
abbrev s_Unit___init__ : Stmt := inClass (topS 47) 0
theorem sc_Unit___init__ : FnScope ["self", "name", "parameters", "needs", "gives", "falls", "changes", "uses", "registers", "rows"] ["self", "name", "parameters", "needs", "gives", "falls", "changes", "uses", "registers", "rows"] (defScope s_Unit___init__) := ⟨rfl, rfl, rfl, by decide +kernel, rfl, by decide +kernel, by decide +kernel⟩
abbrev s__law_unit_of : Stmt := topS 81
theorem sc__law_unit_of : FnScope ["rows"] ["rows"] (defScope s__law_unit_of) := ⟨rfl, rfl, rfl, by decide +kernel, rfl, by decide +kernel, by decide +kernel⟩
section
variable {P : Program} {w : World} {K : PySem.W.Frag} {mg : Str → Option Value} {base : Heap} {Cs : List Addr}
def wiUnit : WIn := fun ds _ Q => ∃ nm ps ns gs fa ch us rg rows, ds = [nm, .tup ps, .tup ns, .tup gs, fa, .tup ch, .tup us, .tup rg, .tup rows] ∧
  Q [("name", nm), ("parameters", .tup ps), ("needs", .tup ns), ("gives", .tup gs), ("falls", fa), ("changes", .tup ch), ("uses", .tup us), ("registers", .tup rg), ("rows", .tup rows)]
theorem ok_init {C : Addr} {f : Addr} {fd : FuncData} (T : Txt K mg Cs) (hC : C ∈ Cs) (F : Fun K "__init__" "Unit.__init__" s_Unit___init__ f fd) : FnG P w K mg base 1 f fd ["self", "name", "parameters", "needs", "gives", "falls", "changes", "uses", "registers", "rows"] (spI K C wiUnit) := by
  refine init_ok F sc_Unit___init__ (fun ds Xn Q' h => ?_) fun R cdv A outer s H E hg hr hp => ⟨_, _, (b_cons (s_fld 0 T.at_name (v_var 1))
  (b_cons (s_fld 0 T.at_parameters (v_t1 call_tuple_of unw_tuple T.n_tuple (by decide +kernel) (v_var 2)))
  (b_cons (s_fld 0 T.at_needs (v_t1 call_tuple_of unw_tuple T.n_tuple (by decide +kernel) (v_var 3)))
  (b_cons (s_fld 0 T.at_gives (v_t1 call_tuple_of unw_tuple T.n_tuple (by decide +kernel) (v_var 4)))
  (b_cons (s_fld 0 T.at_falls (v_var 5))
  (b_cons (s_fld 0 T.at_changes (v_t1 call_tuple_of unw_tuple T.n_tuple (by decide +kernel) (v_var 6)))
  (b_cons (s_fld 0 T.at_uses (v_t1 call_tuple_of unw_tuple T.n_tuple (by decide +kernel) (v_var 7)))
  (b_cons (s_fld 0 T.at_registers (v_t1 call_tuple_of unw_tuple T.n_tuple (by decide +kernel) (v_var 8)))
  (b_one (s_fld 0 T.at_rows (v_t1 call_tuple_of unw_tuple T.n_tuple (by decide +kernel) (v_var 9)))))))))))), fun ds Xn Q' h x => ?_⟩
  · obtain ⟨nm, ps, ns, gs, fa, ch, us, rg, rows, rfl, _⟩ := h
    rfl
  · obtain ⟨nm, ps, ns, gs, fa, ch, us, rg, rows, rfl, q⟩ := h
    clear hg hr hp T F
    walk_at "u"
    exact q
def uGs (rows : List D) : List (Str × D) := [("name", .str "f"), ("parameters", .tup [.tup [.str "n", .bl false], .tup [.str "a", .bl true]]), ("needs", .tup []), ("gives", .tup []), ("falls", .non), ("changes", .tup []), ("uses", .tup []), ("registers", .tup [.str "x", .str "y"]), ("rows", .tup rows)]
/-- the law's unit of these rows -/
def uD (C : Addr) (rows : List D) : D := .obj C (uGs rows)
def wfUnitOf (C : Addr) : WF := fun _ ds _ Q => ∃ rows, ds = [.lst rows] ∧ Q (.sh (uD C rows))
theorem ok_unit_of {C : Addr} {f : Addr} {fd : FuncData} (T : Txt K mg Cs) (F : Fun K "_law_unit_of" "_law_unit_of" s__law_unit_of f fd)
    {f1 : Addr} {d1 : FuncData} (FI_Unit : FnG P w K mg base 1 f1 d1 ["self", "name", "parameters", "needs", "gives", "falls", "changes", "uses", "registers", "rows"] (spI K C wiUnit)) (M_Unit : MakeG K mg "Unit" C f1 d1 ["self", "name", "parameters", "needs", "gives", "falls", "changes", "uses", "registers", "rows"]) : FnG P w K mg base 3 f fd ["rows"] (spV K (wfUnitOf C)) := by
  refine def_ok F sc__law_unit_of (fun R ds Xn Q' h => ?_) fun R cdv A outer s H E hg hr hp => ⟨_, _, (b_one (s_ret (v_make FI_Unit M_Unit hg (hr.mono (by decide)) hp (a_cons v_str (a_cons (v_tup (a_cons (v_tup (a_cons v_str (a_cons v_bl a_nil))) (a_cons (v_tup (a_cons v_str (a_cons v_bl a_nil))) a_nil))) (a_cons (v_tup a_nil) (a_cons (v_tup a_nil) (a_cons v_non (a_cons (v_tup a_nil) (a_cons (v_tup a_nil) (a_cons (v_tup (a_cons v_str (a_cons v_str a_nil))) (a_cons (v_t1 call_tuple_of unw_tuple T.n_tuple (by decide +kernel) (v_var 0)) a_nil)))))))))))), fun ds Xn Q' h => ?_⟩
  · obtain ⟨rows, rfl, _⟩ := h
    rfl
  · obtain ⟨rows, rfl, q⟩ := h
    clear hg hr hp T F
    walk_at "u"
    refine ⟨_, _, _, _, _, _, _, _, _, rfl, ?_⟩
    exact q
end
end K54

set_option Elab.async false
set_option maxRecDepth 100000
set_option linter.all false
set_option maxHeartbeats 4000000
namespace K54
open PySem L2 VH K50
local macro_rules | `(tactic| walk_at "w") => `(tactic| conv => whnf)
local macro_rules | `(tactic| walk_at "s") => `(tactic| first | assumption | decide | omega | rfl | exact (show (0 : Int) < _ from by decide) | exact ⟨by decide, by decide⟩ | exact nats_flat | exact Or.inl (Or.inl ⟨by decide, by decide⟩) | exact Or.inl (Or.inr ⟨by decide, by decide⟩) | exact Nat.le_of_ble_eq_true rfl | exact line_le (by simp; omega) | exact line_lt (by simp; omega) | exact line_lt (by omega) | exact line_le (by omega))
local macro_rules | `(tactic| walk_at "v") => `(tactic| first
  | (refine And.intro (by walk_at "s") ?_)
  | (refine gOpt_in (by assumption) ?_)
  | (refine dec_yes (dec_t (by first | assumption | omega)) ?_)
  | (refine dec_no (dec_f (by first | assumption | omega)) ?_)
  | (refine dec_yes (dec_nt (by first | assumption | omega)) ?_)
  | (refine dec_no (dec_nf (by first | assumption | omega)) ?_))
local macro_rules | `(tactic| walk_at "u") => `(tactic| (conv => whnf); repeat ((walk_at "v"); (conv => whnf)))

--opts {"frzD": {("told_ahead","{}"),("told_ahead","{thing: True for thing in list(ahead[at]) + things[at]}"),("told_ahead","{thing: True for thing in ahead[target] if thing in behind}"),("round_rows","rows_come_to(forth, at)")},"keys":{("told_ahead","ahead[target]"),("round_rows","rows_come_to(forth, at)")},"dictarg":{("told_ahead","list(ahead[at])"),("standing_ahead","sorted(before)")}}
abbrev s_told_ahead : Stmt := topS 11
theorem sc_told_ahead : FnScope ["unit", "things", "_", "ahead", "at", "thing", "behind", "target"] ["unit", "things"] (defScope s_told_ahead) := ⟨rfl, rfl, rfl, by decide +kernel, rfl, by decide +kernel, by decide +kernel⟩
abbrev s_standing_ahead : Stmt := topS 12
theorem sc_standing_ahead : FnScope ["unit", "at", "ahead", "before"] ["unit"] (defScope s_standing_ahead) := ⟨rfl, rfl, rfl, by decide +kernel, rfl, by decide +kernel, by decide +kernel⟩
def tr (S : List Key) : List (Key × D) := S.map fun k => (k, .bl true)
def enc : Option (List Key) → D
  | none => .non
  | some S => .dk (tr S)
def kmem (k : Key) (S : List Key) : Bool := S.any fun x => decide (x = k)
theorem kmem_iff {k : Key} {S : List Key} : kmem k S = true ↔ k ∈ S := by simp [kmem]
theorem tr_keys {S : List Key} : keysD (tr S) = S.map kD := by simp [keysD, tr]
theorem tr_len {S : List Key} : (tr S).length = S.length := by simp [tr]
theorem kD_key (k : Key) : (kD k).key = some k := by cases k <;> rfl
theorem tr_any {S : List Key} {k : Key} : ((tr S).any fun kv => decide (kv.1 = k)) = true ↔ k ∈ S := by simp [tr]
theorem tr_put {S : List Key} {k : Key} : putD (tr S) k (.bl true) = tr (if kmem k S = true then S else S ++ [k]) := by
  unfold putD
  by_cases h : k ∈ S
  · rw [if_pos (tr_any.mpr h), if_pos (kmem_iff.mpr h)]
    unfold tr
    rw [List.map_map]
    refine List.map_congr_left fun x _ => ?_
    simp
  · rw [if_neg (fun z => h (tr_any.mp z)), if_neg (fun z => h (kmem_iff.mp z))]
    simp [tr]
theorem tr_get {S : List Key} {k : Key} : (dkGet (tr S) k).isSome = true ↔ k ∈ S := by
  unfold dkGet
  rw [Option.isSome_map, List.find?_isSome]
  simp only [decide_eq_true_eq, tr, List.mem_map]
  constructor
  · rintro ⟨x, ⟨a, ha, rfl⟩, h⟩
    have h : a = k := h
    rw [← h]; exact ha
  · exact fun h => ⟨_, ⟨k, h, rfl⟩, rfl⟩
theorem nodup_len : ∀ {S U : List Key}, S.Nodup → (∀ x ∈ S, x ∈ U) → S.length ≤ U.length
  | [], _, _, _ => by simp
  | x :: S, U, h, s => by
    have hx := s x (by simp)
    have h1 := List.nodup_cons.mp h
    have h2 := nodup_len (S := S) (U := U.filter fun y => !decide (y = x)) h1.2 fun y hy => by
      refine List.mem_filter.mpr ⟨s y (by simp [hy]), ?_⟩
      have : y ≠ x := fun z => by subst z; exact h1.1 hy
      simp [this]
    have h3 : (U.filter fun y => !decide (y = x)).length < U.length := List.length_filter_lt_length_iff_exists.mpr ⟨x, hx, by simp⟩
    simp only [List.length_cons]
    omega
/-- what row t has, told by the edges that have been looked at -/
def Pre (dn : Nat → Nat → Prop) (th : Nat → List Key) (L : List (Option (List Key))) (t : Nat) : Prop :=
  (L[t]? = some none → ∀ p, dn p t → L[p]? = some none) ∧ ∀ S, L[t]? = some (some S) → (∃ p Sp, dn p t ∧ L[p]? = some (some Sp)) ∧ ∀ x, x ∈ S ↔ ∀ p, dn p t → ∀ Sp, L[p]? = some (some Sp) → x ∈ Sp ∨ x ∈ th p
def edge (ks : List Kd) (p t : Nat) : Prop := p < t ∧ t ∈ steps ks p
structure Flo (ks : List Kd) (th : Nat → List Key) (U : List Key) (dn : Nat → Nat → Prop) (L : List (Option (List Key))) : Prop where
  len : L.length = ks.length
  sub : ∀ (t : Nat) (S : List Key), L[t]? = some (some S) → S.Nodup ∧ ∀ x ∈ S, x ∈ U
  pre : ∀ t, 1 ≤ t → t < ks.length → Pre dn th L t
theorem set_get {L : List (Option (List Key))} {t p : Nat} {v : Option (List Key)} (h : p ≠ t) : (L.set t v)[p]? = L[p]? := List.getElem?_set_ne (fun z => h z.symm)
/-- one step: the edge from a to t -/
theorem flow_step {ks : List Kd} {th : Nat → List Key} {U : List Key} {dn : Nat → Nat → Prop} {L : List (Option (List Key))} {a t : Nat} {Sa B : List Key} (f : Flo ks th U dn L) (ha : L[a]? = some (some Sa)) (at_ : a < t) (ht : t < ks.length)
    (hdn : ∀ p u, dn p u → p ≤ a) (hB : B.Nodup) (hBU : ∀ x ∈ B, x ∈ U) (hBm : ∀ x, x ∈ B ↔ x ∈ Sa ∨ x ∈ th a) :
    ∀ v, (L[t]? = some none → v = some B) → (∀ S, L[t]? = some (some S) → v = some (S.filter fun x => kmem x B)) → Flo ks th U (fun p u => dn p u ∨ (p = a ∧ u = t)) (L.set t v) := by
  intro v h1 h2
  obtain ⟨o, ho⟩ : ∃ o, L[t]? = some o := ⟨_, List.getElem?_eq_getElem (by rw [f.len]; exact ht)⟩
  obtain ⟨S', hv, hS', hSU⟩ : ∃ S', v = some S' ∧ S'.Nodup ∧ ∀ x ∈ S', x ∈ U := by
    cases o with
    | none => exact ⟨B, h1 ho, hB, hBU⟩
    | some S => exact ⟨_, h2 S ho, (f.sub t S ho).1.filter _, fun x hx => (f.sub t S ho).2 x (List.mem_filter.mp hx).1⟩
  have self : (L.set t v)[t]? = some v := List.getElem?_set_self (by rw [f.len]; exact ht)
  refine ⟨by rw [List.length_set]; exact f.len, fun u S hu => ?_, fun u u1 u2 => ?_⟩
  · by_cases e : u = t
    · subst e
      rw [self, hv] at hu
      cases hu
      exact ⟨hS', hSU⟩
    · rw [set_get e] at hu
      exact f.sub u S hu
  · have old : ∀ p, p ≤ a → (L.set t v)[p]? = L[p]? := fun p hp => set_get (by omega)
    by_cases e : u = t
    · subst e
      refine ⟨fun z => (by rw [self, hv] at z; cases z), fun S hS => ?_⟩
      rw [self, hv] at hS
      cases hS
      refine ⟨⟨a, Sa, .inr ⟨rfl, rfl⟩, by rw [old a (Nat.le_refl _)]; exact ha⟩, fun x => ?_⟩
      cases o with
      | none =>
        have e : S' = B := Option.some.inj (hv.symm.trans (h1 ho))
        subst e
        rw [hBm]
        constructor
        · intro hx p hp Sp hSp
          rcases hp with hp | ⟨rfl, _⟩
          · rw [old p (hdn p _ hp), (f.pre u u1 u2).1 ho p hp] at hSp
            cases hSp
          · rw [old p (Nat.le_refl _), ha] at hSp
            cases hSp
            exact hx
        · intro h
          exact h a (.inr ⟨rfl, rfl⟩) Sa (by rw [old a (Nat.le_refl _)]; exact ha)
      | some S =>
        have e : S' = S.filter fun x => kmem x B := Option.some.inj (hv.symm.trans (h2 S ho))
        subst e
        rw [List.mem_filter, kmem_iff, hBm, ((f.pre u u1 u2).2 S ho).2 x]
        constructor
        · rintro ⟨h, hx⟩ p hp Sp hSp
          rcases hp with hp | ⟨rfl, _⟩
          · rw [old p (hdn p _ hp)] at hSp
            exact h p hp Sp hSp
          · rw [old p (Nat.le_refl _), ha] at hSp
            cases hSp
            exact hx
        · intro h
          refine ⟨fun p hp Sp hSp => h p (.inl hp) Sp (by rw [old p (hdn p _ hp)]; exact hSp), h a (.inr ⟨rfl, rfl⟩) Sa (by rw [old a (Nat.le_refl _)]; exact ha)⟩
    · have q := f.pre u u1 u2
      refine ⟨fun z p hp => ?_, fun S hS => ?_⟩
      · rw [set_get e] at z
        rcases hp with hp | ⟨_, h⟩
        · rw [old p (hdn p _ hp)]; exact q.1 z p hp
        · exact absurd h e
      · rw [set_get e] at hS
        obtain ⟨⟨p, Sp, h3, h4⟩, h5⟩ := q.2 S hS
        refine ⟨⟨p, Sp, .inl h3, by rw [old p (hdn p _ h3)]; exact h4⟩, fun x => (h5 x).trans ?_⟩
        constructor
        · intro h p hp Sp hSp
          rcases hp with hp | ⟨_, h'⟩
          · rw [old p (hdn p _ hp)] at hSp; exact h p hp Sp hSp
          · exact absurd h' e
        · exact fun h p hp Sp hSp => h p (.inl hp) Sp (by rw [old p (hdn p _ hp)]; exact hSp)
theorem Flo.iff {ks : List Kd} {th : Nat → List Key} {U : List Key} {dn dn' : Nat → Nat → Prop} {L : List (Option (List Key))} (f : Flo ks th U dn L) (h : ∀ p u, u < ks.length → (dn p u ↔ dn' p u) ∨ (L[p]? = some none ∧ (dn p u → dn' p u))) : Flo ks th U dn' L := by
  refine ⟨f.len, f.sub, fun t t1 t2 => ⟨fun z p hp => ?_, fun S hS => ?_⟩⟩
  · rcases h p t t2 with q | ⟨q, _⟩
    · exact (f.pre t t1 t2).1 z p (q.mpr hp)
    · exact q
  · obtain ⟨⟨p, Sp, h3, h4⟩, h5⟩ := (f.pre t t1 t2).2 S hS
    refine ⟨⟨p, Sp, ?_, h4⟩, fun x => (h5 x).trans ?_⟩
    · rcases h p t t2 with q | ⟨q, _⟩
      · exact q.mp h3
      · rw [q] at h4; cases h4
    · constructor
      · intro hx p hp Sp hSp
        rcases h p t t2 with q | ⟨q, _⟩
        · exact hx p (q.mpr hp) Sp hSp
        · rw [q] at hSp; cases hSp
      · intro hx p hp Sp hSp
        rcases h p t t2 with q | ⟨q, q2⟩
        · exact hx p (q.mp hp) Sp hSp
        · rw [q] at hSp; cases hSp
theorem ded_mem : ∀ {l a : List Nat} {x : Nat}, x ∈ ded a l ↔ x ∈ a ∨ x ∈ l
  | [], a, x => by simp [ded]
  | t :: l, a, x => by
    unfold ded
    rw [ded_mem]
    by_cases h : t ∈ a
    · rw [if_pos h]
      constructor
      · rintro (h1 | h1)
        · exact .inl h1
        · exact .inr (by simp [h1])
      · rintro (h1 | h1)
        · exact .inl h1
        · rcases List.mem_cons.mp h1 with rfl | h1
          · exact .inl h
          · exact .inr h1
    · rw [if_neg h]
      simp [or_assoc]
end K54

set_option Elab.async false
set_option maxRecDepth 100000
set_option linter.all false
set_option maxHeartbeats 4000000
namespace K54
open PySem L2 VH K50
local macro_rules | `(tactic| walk_at "w") => `(tactic| conv => whnf)
local macro_rules | `(tactic| walk_at "s") => `(tactic| first | assumption | decide | omega | rfl | exact (show (0 : Int) < _ from by decide) | exact ⟨by decide, by decide⟩ | exact nats_flat | exact Or.inl (Or.inl ⟨by decide, by decide⟩) | exact Or.inl (Or.inr ⟨by decide, by decide⟩) | exact Nat.le_of_ble_eq_true rfl | exact line_le (by simp; omega) | exact line_lt (by simp; omega) | exact line_lt (by omega) | exact line_le (by omega))
local macro_rules | `(tactic| walk_at "v") => `(tactic| first
  | (refine And.intro (by walk_at "s") ?_)
  | (refine gOpt_in (by assumption) ?_)
  | (refine dec_yes (dec_t (by first | assumption | omega)) ?_)
  | (refine dec_no (dec_f (by first | assumption | omega)) ?_)
  | (refine dec_yes (dec_nt (by first | assumption | omega)) ?_)
  | (refine dec_no (dec_nf (by first | assumption | omega)) ?_))
local macro_rules | `(tactic| walk_at "u") => `(tactic| (conv => whnf); repeat ((walk_at "v"); (conv => whnf)))

--opts {"cut": [("told_ahead", "if at == 0:")], "frzD": {("told_ahead","{}"),("told_ahead","{thing: True for thing in list(ahead[at]) + things[at]}"),("told_ahead","{thing: True for thing in ahead[target] if thing in behind}"),("round_rows","rows_come_to(forth, at)")},"keys":{("told_ahead","ahead[target]"),("round_rows","rows_come_to(forth, at)")},"dictarg":{("told_ahead","list(ahead[at])"),("standing_ahead","sorted(before)")}}
theorem ded_nodup : ∀ {l a : List Nat}, a.Nodup → (ded a l).Nodup
  | [], _, h => h
  | t :: l, a, h => by
    unfold ded
    by_cases c : t ∈ a
    · rw [if_pos c]; exact ded_nodup h
    · rw [if_neg c]
      refine ded_nodup (List.nodup_append.mpr ⟨h, by simp, fun x hx y hy => ?_⟩)
      rw [List.mem_singleton.mp hy]
      intro z
      exact c (z ▸ hx)
def wfTold (Cs : List Addr) : WF := fun _ ds _ Q => ∃ u ks things, ∃ (th : Nat → List Key) (U : List Key), ds = [u, .lst things] ∧ UnitIs Cs u ks ∧ GoodG ks ∧ 0 < ks.length ∧ ks.length < 1000 ∧ U.length ≤ 1000 ∧
  (∀ i, i < ks.length → things[i]? = some (.lst ((th i).map kD)) ∧ (th i).length ≤ 1000 ∧ ∀ x ∈ th i, x ∈ U) ∧ ∀ L, Flo ks th U (edge ks) L → L[0]? = some (some []) → Q (.nw (L.map enc))
section
variable {P : Program} {w : World} {K : PySem.W.Frag} {mg : Str → Option Value} {base : Heap} {Cs : List Addr}
theorem ok_told_ahead {f : Addr} {fd : FuncData} (T : Txt K mg Cs) (F : Fun K "told_ahead" "told_ahead" s_told_ahead f fd)
    {f1 : Addr} {d1 : FuncData} (F_next_rows : FnG P w K mg base 2 f1 d1 ["unit", "at"] (spV K (wfNext Cs))) (G_next_rows : Glob K mg "next_rows" f1 d1 ["unit", "at"])
    {f2 : Addr} {d2 : FuncData} (F_is_back : FnG P w K mg base 1 f2 d2 ["at", "target"] (spV K wfBack)) (G_is_back : Glob K mg "is_back" f2 d2 ["at", "target"]) : FnG P w K mg base 3 f fd ["unit", "things"] (spV K (wfTold Cs)) := by
  refine def_ok F sc_told_ahead (fun R ds Xn Q' h => ?_) fun R cdv A outer s H E hg hr hp => ⟨_, _, (b_cons (s_setLc 3 rfl sc_told_ahead.nd (i_seq (v_fld T.at_rows (v_var 0))) (own := [("_", 2)]) rfl (fun _ _ _ _ _ => (g_name 2 sc_told_ahead.nd)) (fun _ _ _ _ _ => ts_nil) (fun _ _ _ _ _ => v_non) (sw_true rfl rfl rfl (by decide +kernel)))
  (b_cons (s_for (passes_of rfl) rfl (i_rng1 T.n_range (v_b1 cr_lenA unw_len T.n_len PySem.boot_len (v_fld T.at_rows (v_var 0)))) (g_name 4 sc_told_ahead.nd)
  (b_cut (s_if (t_cmp (c_eq hr) (v_var 4) v_int)
  (b_one (s_put 3 hr (v_frzD v_dict0) (v_var 4)))
  b_nil)
  (b_one (s_if (t_cmp c_isNot (v_ix hr (v_var 3) (v_var 4)) v_non)
  (b_cons (s_set 6 sc_told_ahead.nd (v_frzD (v_dc rfl sc_told_ahead.nd (i_seq (v_add (v_t1 (call_listD rfl) unw_listD T.n_list (by decide +kernel) (v_ix hr (v_var 3) (v_var 4))) (v_ix hr (v_var 1) (v_var 4)))) (own := [("thing", 5)]) rfl (fun _ _ _ _ _ => (g_name 5 sc_told_ahead.nd)) (fun _ _ _ _ _ => ts_nil) (fun _ _ _ _ _ => (v_var 5)) (fun _ _ _ _ _ => v_bl))))
  (b_one (s_for (passes_of rfl) rfl (i_seq (v_call F_next_rows G_next_rows hg (hr.mono (by decide)) hp (a_cons (v_var 0) (a_cons (v_var 4) a_nil)))) (g_name 7 sc_told_ahead.nd)
  (b_one (s_if (t_bool (w_and (t_cmp c_is (v_ix hr (v_var 3) (v_var 7)) v_non) (w_and1 (t_not (t_tru (v_call F_is_back G_is_back hg (hr.mono (by decide)) hp (a_cons (v_var 4) (a_cons (v_var 7) a_nil))))))))
  (b_frz 6 (b_one (s_put 3 hr (v_var 6) (v_var 7))))
  (b_one (s_if (t_not (t_tru (v_call F_is_back G_is_back hg (hr.mono (by decide)) hp (a_cons (v_var 4) (a_cons (v_var 7) a_nil)))))
  (b_one (s_put 3 hr (v_frzD (v_dc rfl sc_told_ahead.nd (i_keys (v_ix hr (v_var 3) (v_var 7))) (own := [("thing", 5)]) rfl (fun _ _ _ _ _ => (g_name 5 sc_told_ahead.nd)) (fun _ _ _ _ _ => (ts_one (t_cmp (c_in hr) (v_var 5) (v_var 6)))) (fun _ _ _ _ _ => (v_var 5)) (fun _ _ _ _ _ => v_bl))) (v_var 7)))
  b_nil)))))))
  b_nil))))
  (b_one (s_retV 3)))), fun ds Xn Q' h => ?_⟩
  · obtain ⟨u, ks, things, th, U, rfl, _⟩ := h
    rfl
  · obtain ⟨u, ks, things, th, U, rfl, hu, g, hn0, hn1, hU, hth, hq⟩ := h
    have hu' := hu
    obtain ⟨C, gs, rows, rfl, hC, hrows, hks⟩ := hu'
    have e := hks.length
    clear hg hr hp T F
    walk_at "u"
    refine lcW_ind (fun ds acc => ∃ m, acc = List.replicate m .non ∧ m + ds.length = ks.length) ?_ ?_ ⟨0, rfl, by omega⟩
    rotate_left
    · rintro d ds acc ⟨m, rfl, hm⟩ ih
      walk_at "u"
      exact ih _ ⟨m + 1, by rw [List.replicate_succ'], by simp at hm; omega⟩
    rintro acc ⟨m, rfl, hm⟩
    obtain rfl : m = ks.length := by simpa using hm
    walk_at "u"
    refine forW_ind (fun ds env => ∃ j m L s2 s4 s5 s6 s7, ds = rgs j m ∧ j + m = ks.length ∧ env = [.sh (.obj C gs), .sh (.lst things), s2, .ow (L.map enc), s4, s5, s6, s7] ∧ Flo ks th U (fun p t => edge ks p t ∧ p < j) L ∧ (j = 0 → ∀ i, i < ks.length → L[i]? = some none) ∧ (0 < j → L[0]? = some (some []))) ?_ ?_
      ⟨0, ks.length, List.replicate ks.length none, _, _, _, _, _, by rw [← rngD_rgs, ← e]; rfl, by omega, by simp [enc]; rfl,
        ⟨by simp, fun t S h => by rw [List.getElem?_replicate] at h; split at h <;> simp at h, fun t _ ht => ⟨fun _ p hp => absurd hp.2 (by omega), fun S h => by rw [List.getElem?_replicate] at h; split at h <;> simp at h⟩⟩,
        fun _ i hi => by rw [List.getElem?_replicate, if_pos hi], fun h => by omega⟩
    · rintro env ⟨j, m, L, s2, s4, s5, s6, s7, e1, hm, rfl, fl, z0, z1⟩
      obtain rfl : m = 0 := by
        cases m with
        | zero => rfl
        | succ m => cases e1
      walk_at "u"
      refine hq L (fl.iff fun p u hu => .inl ⟨fun h => h.1, fun h => ⟨h, ?_⟩⟩) (z1 (by omega))
      have := h.1
      omega
    · rintro d ds env ⟨j, m, L, s2, s4, s5, s6, s7, e1, hm, rfl, fl, z0, z1⟩ ih
      cases m with
      | zero => cases e1
      | succ m =>
      obtain ⟨rfl, rfl⟩ := List.cons.inj e1
      walk_at "w"
      refine ⟨fun env => ∃ L, env = [.sh (.obj C gs), .sh (.lst things), s2, .ow (L.map enc), .sh (.int (j : Nat)), s5, s6, s7] ∧ Flo ks th U (fun p t => edge ks p t ∧ p < j) L ∧ L[0]? = some (some []), ?_, ?_⟩
      · have ll := fl.len
        by_cases c : j = 0
        · subst c
          have ij : ixJ (L.map enc).length ((0 : Nat) : Int) = some 0 := ixJ_nat (by simp; omega)
          walk_at "u"
          refine ⟨L.set 0 (some []), by rw [List.map_set]; rfl, ⟨by simp [ll], fun t S h => ?_, fun t t1 t2 => ⟨fun _ p hp => absurd hp.2 (by omega), fun S h => ?_⟩⟩, by rw [List.getElem?_set_self (by omega)]⟩
          · by_cases c : t = 0
            · subst c
              rw [List.getElem?_set_self (by omega)] at h
              cases h
              exact ⟨List.nodup_nil, fun x hx => by cases hx⟩
            · rw [set_get c] at h
              have hl := (List.getElem?_eq_some_iff.mp h).1
              rw [z0 rfl t (by omega)] at h
              cases h
          · rw [set_get (by omega), z0 rfl t t2] at h
            cases h
        · walk_at "u"
          exact ⟨L, rfl, fl, z1 (by omega)⟩
      rintro env ⟨L, rfl, fl, z⟩
      have ll := fl.len
      obtain ⟨o, ho⟩ : ∃ o, L[j]? = some o := ⟨_, List.getElem?_eq_getElem (by omega)⟩
      have ixo : ixD (L.map enc) (j : Int) = some (enc o) := by rw [ixD_nat, List.getElem?_map, ho]; rfl
      cases o with
      | none =>
        walk_at "u"
        refine ih _ ⟨j + 1, m, L, _, _, _, _, _, rfl, by omega, rfl, fl.iff fun p u hu => ?_, fun h => by omega, fun _ => z⟩
        by_cases c : p = j
        · subst c
          exact .inr ⟨ho, fun h => absurd h.2 (by omega)⟩
        · exact .inl ⟨fun h => ⟨h.1, by omega⟩, fun h => ⟨h.1, by omega⟩⟩
      | some Sa =>
        obtain ⟨ht1, ht2, ht3⟩ := hth j (by omega)
        have ixt : ixD things (j : Int) = some (.lst ((th j).map kD)) := by rw [ixD_nat]; exact ht1
        obtain ⟨sa1, sa2⟩ := fl.sub j Sa ho
        have sl := nodup_len sa1 sa2
        have lk : (keysD (tr Sa)).length = Sa.length := by rw [tr_keys, List.length_map]
        walk_at "u"
        rw [show keysD (tr Sa) ++ (th j).map kD = (Sa ++ th j).map kD by rw [tr_keys, List.map_append]]
        refine dcW_ind (fun ds acc => ∃ (l B : List Key), ds = l.map kD ∧ acc = tr B ∧ B.Nodup ∧ ∀ x, (x ∈ B ∨ x ∈ l) ↔ (x ∈ Sa ∨ x ∈ th j)) ?_ ?_ ⟨Sa ++ th j, [], rfl, rfl, List.nodup_nil, fun x => by simp⟩
        rotate_left
        · rintro d ds acc ⟨l, B, e2, rfl, nB, hB⟩ ih2
          cases l with
          | nil => cases e2
          | cons k l =>
            obtain ⟨rfl, rfl⟩ := List.cons.inj e2
            have kk := kD_key k
            walk_at "u"
            refine ih2 _ ⟨l, _, rfl, tr_put, ?_, fun x => ?_⟩
            · by_cases c : k ∈ B
              · rw [if_pos (kmem_iff.mpr c)]; exact nB
              · rw [if_neg (fun z => c (kmem_iff.mp z))]
                refine List.nodup_append.mpr ⟨nB, by simp, fun x hx y hy => ?_⟩
                rw [List.mem_singleton.mp hy]
                exact fun z => c (z ▸ hx)
            · rw [← hB x]
              by_cases c : k ∈ B
              · rw [if_pos (kmem_iff.mpr c)]
                constructor
                · rintro (h | h)
                  · exact .inl h
                  · exact .inr (by simp [h])
                · rintro (h | h)
                  · exact .inl h
                  · rcases List.mem_cons.mp h with rfl | h
                    · exact .inl c
                    · exact .inr h
              · rw [if_neg (fun z => c (kmem_iff.mp z))]
                simp [or_assoc]
        rintro acc ⟨l, B, e2, rfl, nB, hB⟩
        cases l with
        | cons k l => cases e2
        | nil =>
        have hB' : ∀ x, x ∈ B ↔ x ∈ Sa ∨ x ∈ th j := fun x => by simpa using hB x
        have hBU : ∀ x ∈ B, x ∈ U := fun x hx => ((hB' x).mp hx).elim (sa2 x) (ht3 x)
        walk_at "u"
        refine ⟨_, ks, j, rfl, hu, by omega, ?_⟩
        walk_at "w"
        refine forW_ind (fun ts env => ∃ tl L s5 s7, ts = nats tl ∧ tl.Nodup ∧ (∀ t ∈ tl, t ∈ steps ks j) ∧ env = [.sh (.obj C gs), .sh (.lst things), s2, .ow (L.map enc), .sh (.int (j : Nat)), s5, .sh (.dk (tr B)), s7] ∧
          Flo ks th U (fun p t => (edge ks p t ∧ p < j) ∨ (p = j ∧ j < t ∧ t ∈ steps ks j ∧ t ∉ tl)) L ∧ L[0]? = some (some []) ∧ L[j]? = some (some Sa)) ?_ ?_
          ⟨_, L, s5, s7, rfl, ded_nodup List.nodup_nil, fun t h => by simpa [ded_mem] using h, rfl, fl.iff fun p u hu => .inl ⟨fun h => .inl h, fun h => h.elim id fun h => absurd (by simpa [ded_mem] using h.2.2.1) h.2.2.2⟩, z, ho⟩
        · rintro env ⟨tl, L, s5, s7, e3, _, _, rfl, fl, z, _⟩
          cases tl with
          | cons t tl => cases e3
          | nil =>
          refine ih _ ⟨j + 1, m, L, _, _, _, _, _, rfl, by omega, rfl, fl.iff fun p u hu => .inl ⟨?_, ?_⟩, fun h => by omega, fun _ => z⟩
          · rintro (⟨h1, h2⟩ | ⟨rfl, h2, h3, _⟩)
            · exact ⟨h1, by omega⟩
            · exact ⟨⟨h2, h3⟩, by omega⟩
          · rintro ⟨h1, h2⟩
            by_cases c : p = j
            · subst c
              exact .inr ⟨rfl, h1.1, h1.2, by simp⟩
            · exact .inl ⟨h1, by omega⟩
        · rintro d ds env ⟨tl, L, s5, s7, e3, nd, hst, rfl, fl, z, ho⟩ ih2
          cases tl with
          | nil => cases e3
          | cons t tl =>
            cases e3
            have nd' := List.nodup_cons.mp nd
            have hst' : ∀ u ∈ tl, u ∈ steps ks j := fun u h => hst u (by simp [h])
            have htn := steps_lt g (hst t (by simp))
            have ll := fl.len
            obtain ⟨o, hot⟩ : ∃ o, L[t]? = some o := ⟨_, List.getElem?_eq_getElem (by omega)⟩
            have ixo : ixD (L.map enc) (t : Int) = some (enc o) := by rw [ixD_nat, List.getElem?_map, hot]; rfl
            have ij : ixJ (L.map enc).length (t : Int) = some t := ixJ_nat (by simp; omega)
            by_cases c : t ≤ j
            · have fl2 : Flo ks th U (fun p u => (edge ks p u ∧ p < j) ∨ (p = j ∧ j < u ∧ u ∈ steps ks j ∧ u ∉ tl)) L := fl.iff fun p u hu => .inl ⟨fun h => h.imp id fun h => ⟨h.1, h.2.1, h.2.2.1, fun q => h.2.2.2 (by simp [q])⟩, fun h => h.imp id fun h => ⟨h.1, h.2.1, h.2.2.1, fun q => by
                rcases List.mem_cons.mp q with rfl | q
                · omega
                · exact h.2.2.2 q⟩⟩
              cases o with
              | none =>
                walk_at "u"
                refine ⟨_, _, rfl, ?_⟩
                walk_at "u"
                refine ⟨_, _, rfl, ?_⟩
                walk_at "u"
                exact ih2 _ ⟨tl, L, _, _, rfl, nd'.2, hst', rfl, fl2, z, ho⟩
              | some S =>
                walk_at "u"
                refine ⟨_, _, rfl, ?_⟩
                walk_at "u"
                exact ih2 _ ⟨tl, L, _, _, rfl, nd'.2, hst', rfl, fl2, z, ho⟩
            · have fl2 : ∀ L2, Flo ks th U (fun p u => ((edge ks p u ∧ p < j) ∨ (p = j ∧ j < u ∧ u ∈ steps ks j ∧ u ∉ t :: tl)) ∨ (p = j ∧ u = t)) L2 → Flo ks th U (fun p u => (edge ks p u ∧ p < j) ∨ (p = j ∧ j < u ∧ u ∈ steps ks j ∧ u ∉ tl)) L2 := fun L2 f2 => f2.iff fun p u hu => .inl ⟨?_, ?_⟩
              rotate_left
              · rintro ((h | ⟨h1, h2, h3, h4⟩) | ⟨rfl, rfl⟩)
                · exact .inl h
                · exact .inr ⟨h1, h2, h3, fun q => h4 (by simp [q])⟩
                · exact .inr ⟨rfl, by omega, hst _ (by simp), nd'.1⟩
              · rintro (h | ⟨h1, h2, h3, h4⟩)
                · exact .inl (.inl h)
                · by_cases q : u = t
                  · exact .inr ⟨h1, q⟩
                  · exact .inl (.inr ⟨h1, h2, h3, fun r => by rcases List.mem_cons.mp r with r | r; exact q r; exact h4 r⟩)
              have stp := flow_step fl ho (show j < t by omega) htn (fun p u h => by rcases h with h | h; exact Nat.le_of_lt h.2; omega) nB hBU hB'
              cases o with
              | none =>
                walk_at "u"
                refine ⟨_, _, rfl, ?_⟩
                walk_at "u"
                exact ih2 _ ⟨tl, L.set t (some B), _, _, rfl, nd'.2, hst', by rw [List.map_set]; rfl, fl2 _ (stp (some B) (fun _ => rfl) fun S h => by rw [hot] at h; cases h), by rw [set_get (by omega)]; exact z, by rw [set_get (by omega)]; exact ho⟩
              | some S =>
                obtain ⟨ss1, ss2⟩ := fl.sub t S hot
                have sl2 := nodup_len ss1 ss2
                have lk2 : (keysD (tr S)).length = S.length := by rw [tr_keys, List.length_map]
                walk_at "u"
                refine ⟨_, _, rfl, ?_⟩
                walk_at "u"
                rw [tr_keys]
                refine dcW_ind (fun ds acc => ∃ (l1 l2 : List Key), S = l1 ++ l2 ∧ ds = l2.map kD ∧ acc = tr (l1.filter fun x => kmem x B)) ?_ ?_ ⟨[], S, rfl, rfl, rfl⟩
                rotate_left
                · rintro d ds acc ⟨l1, l2, eS, e2, rfl⟩ ih3
                  cases l2 with
                  | nil => cases e2
                  | cons k l2 =>
                    obtain ⟨rfl, rfl⟩ := List.cons.inj e2
                    have kk := kD_key k
                    walk_at "u"
                    by_cases c : k ∈ B
                    · refine dec_yes (tr_get.mpr c) ?_
                      walk_at "u"
                      refine ih3 _ ⟨l1 ++ [k], l2, by rw [eS]; simp, rfl, ?_⟩
                      rw [tr_put, if_neg (fun q => ?_)]
                      · simp [kmem_iff.mpr c]
                      · have q := (List.mem_filter.mp (kmem_iff.mp q)).1
                        rw [eS] at ss1
                        exact (List.nodup_append.mp ss1).2.2 k q k (by simp) rfl
                    · refine dec_no (fun q => c (tr_get.mp q)) ?_
                      walk_at "u"
                      refine ih3 _ ⟨l1 ++ [k], l2, by rw [eS]; simp, rfl, ?_⟩
                      have : kmem k B = false := by
                        cases q : kmem k B with
                        | false => rfl
                        | true => exact absurd (kmem_iff.mp q) c
                      simp [this]
                rintro acc ⟨l1, l2, eS, e2, rfl⟩
                cases l2 with
                | cons k l2 => cases e2
                | nil =>
                obtain rfl : S = l1 := by simpa using eS
                walk_at "u"
                exact ih2 _ ⟨tl, L.set t (some (S.filter fun x => kmem x B)), _, _, rfl, nd'.2, hst', by rw [List.map_set]; rfl, fl2 _ (stp (some _) (fun h => by rw [hot] at h; cases h) fun S' h => by rw [hot] at h; cases h; rfl), by rw [set_get (by omega)]; exact z, by rw [set_get (by omega)]; exact ho⟩
end
end K54

set_option Elab.async false
set_option maxRecDepth 100000
set_option linter.all false
set_option maxHeartbeats 4000000
namespace K54
open PySem L2 VH K50
local macro_rules | `(tactic| walk_at "w") => `(tactic| conv => whnf)
local macro_rules | `(tactic| walk_at "s") => `(tactic| first | assumption | decide | omega | rfl | exact (show (0 : Int) < _ from by decide) | exact ⟨by decide, by decide⟩ | exact nats_flat | exact Or.inl (Or.inl ⟨by decide, by decide⟩) | exact Or.inl (Or.inr ⟨by decide, by decide⟩) | exact Nat.le_of_ble_eq_true rfl | exact line_le (by simp; omega) | exact line_lt (by simp; omega) | exact line_lt (by omega) | exact line_le (by omega))
local macro_rules | `(tactic| walk_at "v") => `(tactic| first
  | (refine And.intro (by walk_at "s") ?_)
  | (refine gOpt_in (by assumption) ?_)
  | (refine dec_yes (dec_t (by first | assumption | omega)) ?_)
  | (refine dec_no (dec_f (by first | assumption | omega)) ?_)
  | (refine dec_yes (dec_nt (by first | assumption | omega)) ?_)
  | (refine dec_no (dec_nf (by first | assumption | omega)) ?_))
local macro_rules | `(tactic| walk_at "u") => `(tactic| (conv => whnf); repeat ((walk_at "v"); (conv => whnf)))

--opts {"cut": []}
abbrev s_rows_come_to : Stmt := topS 13
theorem sc_rows_come_to : FnScope ["steps", "at", "found", "todo", "row", "target"] ["steps", "at"] (defScope s_rows_come_to) := ⟨rfl, rfl, rfl, by decide +kernel, rfl, by decide +kernel, by decide +kernel⟩
/-- x can be come to from a by one step or more -/
inductive Reach (E : List (List Nat)) (a : Nat) : Nat → Prop
  | one {l : List Nat} {x : Nat} : E[a]? = some l → x ∈ l → Reach E a x
  | more {l : List Nat} {y x : Nat} : Reach E a y → E[y]? = some l → x ∈ l → Reach E a x
def nk (S : List Nat) : List Key := S.map fun i => Sum.inl ((i : Nat) : Int)
theorem nk_mem {S : List Nat} {x : Nat} : (Sum.inl ((x : Nat) : Int) : Key) ∈ nk S ↔ x ∈ S := by
  unfold nk
  rw [List.mem_map]
  constructor
  · rintro ⟨y, hy, e⟩
    have e : ((y : Nat) : Int) = x := Sum.inl.inj e
    rw [show x = y by omega]
    exact hy
  · exact fun h => ⟨x, h, rfl⟩
def wfCome : WF := fun _ ds _ Q => ∃ (E : List (List Nat)) (a : Nat), ds = [.lst (E.map fun l => .lst (nats l)), .int a] ∧ a < E.length ∧ E.length < 1000 ∧ (∀ (i : Nat) (l : List Nat), E[i]? = some l → ∀ x ∈ l, x < E.length) ∧
  ∀ S : List Nat, S.Nodup → (∀ x, x ∈ S ↔ Reach E a x) → Q (.nd (tr (nk S)))
theorem nat_len : ∀ {S : List Nat} {n : Nat}, S.Nodup → (∀ x ∈ S, x < n) → S.length ≤ n := by
  intro S n h b
  have h1 : (nk S).Nodup := by
    unfold nk
    refine List.Pairwise.map _ (fun x y ne e => ne ?_) h
    have e : ((x : Nat) : Int) = y := Sum.inl.inj e
    omega
  have := nodup_len (S := nk S) (U := nk (List.range n)) h1 fun x hx => by
    obtain ⟨i, hi, rfl⟩ := List.mem_map.mp hx
    exact nk_mem.mpr (by simpa using b i hi)
  simpa [nk] using this
section
variable {P : Program} {w : World} {K : PySem.W.Frag} {mg : Str → Option Value} {base : Heap} {Cs : List Addr}
theorem ok_rows_come_to {f : Addr} {fd : FuncData} (T : Txt K mg Cs) (F : Fun K "rows_come_to" "rows_come_to" s_rows_come_to f fd) : FnG P w K mg base 1 f fd ["steps", "at"] (spV K wfCome) := by
  refine def_ok F sc_rows_come_to (fun R ds Xn Q' h => ?_) fun R cdv A outer s H E hg hr hp => ⟨_, _, (b_cons (s_set 2 sc_rows_come_to.nd v_dict0)
  (b_cons (s_set 3 sc_rows_come_to.nd (v_lst (a_cons (v_var 1) a_nil)))
  (b_cons (s_while (passes_of rfl) (t_cmp c_gt (v_b1 cr_lenA unw_len T.n_len PySem.boot_len (v_var 3)) v_int)
  (b_cons (s_pop 4 3 sc_rows_come_to.nd)
  (b_one (s_for (passes_of rfl) rfl (i_seq (v_ix hr (v_var 0) (v_var 4))) (g_name 5 sc_rows_come_to.nd)
  (b_one (s_if (t_cmp (c_notIn hr) (v_var 5) (v_var 2))
  (b_cons (s_put 2 hr v_bl (v_var 5))
  (b_one (s_app 3 (v_var 5))))
  b_nil))))))
  (b_one (s_retV 2))))), fun ds Xn Q' h => ?_⟩
  · obtain ⟨E, a, rfl, _⟩ := h
    rfl
  · obtain ⟨G, a, rfl, ha, hn, hlt, hq⟩ := h
    clear hg hr hp T F
    walk_at "u"
    refine ⟨fun m env => ∃ S st s4 s5, env = [.sh (.lst (G.map fun l => .lst (nats l))), .sh (.int (a : Nat)), .od (tr (nk S)), .ow (nats st), s4, s5] ∧ S.Nodup ∧ (∀ x ∈ S, Reach G a x ∧ x < G.length) ∧ (∀ x ∈ st, x = a ∨ x ∈ S) ∧
      (∀ y, y = a ∨ y ∈ S → y ∈ st ∨ ∀ l : List Nat, G[y]? = some l → ∀ x ∈ l, x ∈ S) ∧ 2 * (G.length - S.length) + st.length ≤ m ∧ m ≤ 2001,
      ⟨2 * G.length + 1, [], [a], _, _, rfl, List.nodup_nil, by simp, by simp, by simp, by simp, by omega⟩, ?_⟩
    rintro m env ⟨S, st, s4, s5, rfl, nS, hS, hst, hcl, hm, hm2⟩
    have nl := nats_len (a := st)
    rcases snoc_or st with rfl | ⟨st, y, rfl⟩
    · walk_at "u"
      refine hq S nS fun x => ⟨fun h => (hS x h).1, fun h => ?_⟩
      have cl : ∀ y, y = a ∨ y ∈ S → ∀ l : List Nat, G[y]? = some l → ∀ x ∈ l, x ∈ S := fun y hy => (hcl y hy).resolve_left (by simp)
      induction h with
      | one h1 h2 => exact cl _ (.inl rfl) _ h1 _ h2
      | more _ h1 h2 ih => exact cl _ (.inr ih) _ h1 _ h2
    · have ps : (nats (st ++ [y]))[(nats (st ++ [y])).length - 1]? = some (.int (y : Nat)) := by simp [nats]
      have dl : (nats (st ++ [y])).dropLast = nats st := by
        rw [nats_append]
        simp [nats]
      have hy := hst y (by simp)
      have hyn : y < G.length := by
        rcases hy with rfl | h
        · exact ha
        · exact (hS y h).2
      obtain ⟨l, hl⟩ : ∃ l, G[y]? = some l := ⟨_, List.getElem?_eq_getElem hyn⟩
      have ixl : ixD (G.map fun l => D.lst (nats l)) (y : Int) = some (.lst (nats l)) := by rw [ixD_nat, List.getElem?_map, hl]; rfl
      simp only [List.length_append, List.length_cons, List.length_nil] at hm nl
      walk_at "u"
      rw [dl]
      refine forW_ind (fun ts env => ∃ dn tl S st s5, ts = nats tl ∧ l = dn ++ tl ∧ env = [.sh (.lst (G.map fun l => .lst (nats l))), .sh (.int (a : Nat)), .od (tr (nk S)), .ow (nats st), .sh (.int (y : Nat)), s5] ∧ S.Nodup ∧ (∀ x ∈ S, Reach G a x ∧ x < G.length) ∧ (∀ x ∈ st, x = a ∨ x ∈ S) ∧
        (∀ x ∈ dn, x ∈ S) ∧ (y = a ∨ y ∈ S) ∧ (∀ z, z ≠ y → (z = a ∨ z ∈ S) → z ∈ st ∨ ∀ l : List Nat, G[z]? = some l → ∀ x ∈ l, x ∈ S) ∧ 2 * (G.length - S.length) + st.length + 1 ≤ m) ?_ ?_
        ⟨[], l, S, st, s5, rfl, rfl, rfl, nS, hS, fun x h => hst x (by simp [h]), by simp, hy, fun z hz h => (hcl z h).imp (fun q => by simpa [hz] using q) id, by omega⟩
      · rintro env ⟨dn, tl, S, st, s5, e2, e3, rfl, nS, hS, hst, hdn, hy, hcl, hm⟩
        cases tl with
        | cons t tl => cases e2
        | nil =>
        obtain rfl : l = dn := by simpa using e3
        refine ⟨2 * (G.length - S.length) + st.length, by omega, S, st, _, _, rfl, nS, hS, hst, fun z hz => ?_, Nat.le_refl _, by omega⟩
        by_cases c : z = y
        · subst c
          refine .inr fun l' hl' x hx => hdn x ?_
          rw [hl] at hl'
          cases hl'
          exact hx
        · exact hcl z c hz
      · rintro d ds env ⟨dn, tl, S, st, s5, e2, e3, rfl, nS, hS, hst, hdn, hy, hcl, hm⟩ ih
        cases tl with
        | nil => cases e2
        | cons t tl =>
          cases e2
          have htn : t < G.length := hlt y l hl t (by rw [e3]; simp)
          have rt : Reach G a t := by
            rcases hy with rfl | h
            · exact .one hl (by rw [e3]; simp)
            · exact .more (hS y h).1 hl (by rw [e3]; simp)
          have nl := nats_len (a := st)
          have sn := nat_len nS fun x hx => (hS x hx).2
          have tl2 : (tr (nk S)).length = S.length := by simp [tr, nk]
          walk_at "u"
          by_cases c : t ∈ S
          · refine dec_no ?_ ?_
            · show ¬ (!(dkGet (tr (nk S)) (Sum.inl ((t : Nat) : Int))).isSome) = true
              rw [tr_get.mpr (nk_mem.mpr c)]
              decide
            · walk_at "w"
              exact ih _ ⟨dn ++ [t], tl, S, st, _, rfl, by rw [e3]; simp, rfl, nS, hS, hst, fun x hx => by rcases List.mem_append.mp hx with h | h; exact hdn x h; rw [List.mem_singleton.mp h]; exact c, hy, hcl, hm⟩
          · have sn1 : S.length + 1 ≤ G.length := nat_len (S := t :: S) (List.nodup_cons.mpr ⟨c, nS⟩) fun x hx => by
              rcases List.mem_cons.mp hx with rfl | h
              · exact htn
              · exact (hS x h).2
            refine dec_yes ?_ ?_
            · show (!(dkGet (tr (nk S)) (Sum.inl ((t : Nat) : Int))).isSome) = true
              have : (dkGet (tr (nk S)) (Sum.inl ((t : Nat) : Int))).isSome ≠ true := fun q => c (nk_mem.mp (tr_get.mp q))
              cases q : (dkGet (tr (nk S)) (Sum.inl ((t : Nat) : Int))).isSome with
              | true => exact absurd q this
              | false => rfl
            · have pt : putD (tr (nk S)) (Sum.inl ((t : Nat) : Int)) (.bl true) = tr (nk (S ++ [t])) := by
                rw [tr_put, if_neg (fun q => c (nk_mem.mp (kmem_iff.mp q)))]
                simp [nk]
              walk_at "u"
              refine ih _ ⟨dn ++ [t], tl, S ++ [t], st ++ [t], _, rfl, by rw [e3]; simp, by rw [nats_append, ← pt]; rfl, ?_, ?_, ?_, ?_, ?_, ?_, ?_⟩
              · refine List.nodup_append.mpr ⟨nS, by simp, fun x hx z hz => ?_⟩
                rw [List.mem_singleton.mp hz]
                exact fun q => c (q ▸ hx)
              · intro x hx
                rcases List.mem_append.mp hx with h | h
                · exact hS x h
                · rw [List.mem_singleton.mp h]; exact ⟨rt, htn⟩
              · intro x hx
                rcases List.mem_append.mp hx with h | h
                · exact (hst x h).imp id fun q => by simp [q]
                · exact .inr (by rw [List.mem_singleton.mp h]; simp)
              · intro x hx
                rcases List.mem_append.mp hx with h | h
                · simp [hdn x h]
                · rw [List.mem_singleton.mp h]; simp
              · exact hy.imp id fun q => by simp [q]
              · intro z hz h
                by_cases q : z = t
                · exact .inl (by simp [q])
                · have h : z = a ∨ z ∈ S := h.imp id fun r => by simpa [q] using r
                  exact (hcl z hz h).imp (fun r => by simp [r]) fun r l hl x hx => by simp [r l hl x hx]
              · simp
                omega
end
end K54

set_option Elab.async false
set_option maxRecDepth 100000
set_option linter.all false
set_option maxHeartbeats 4000000
namespace K54
open PySem L2 VH K50
local macro_rules | `(tactic| walk_at "w") => `(tactic| conv => whnf)
local macro_rules | `(tactic| walk_at "s") => `(tactic| first | assumption | decide | omega | rfl | exact (show (0 : Int) < _ from by decide) | exact ⟨by decide, by decide⟩ | exact nats_flat | exact Or.inl (Or.inl ⟨by decide, by decide⟩) | exact Or.inl (Or.inr ⟨by decide, by decide⟩) | exact Nat.le_of_ble_eq_true rfl | exact line_le (by simp; omega) | exact line_lt (by simp; omega) | exact line_lt (by omega) | exact line_le (by omega))
local macro_rules | `(tactic| walk_at "v") => `(tactic| first
  | (refine And.intro (by walk_at "s") ?_)
  | (refine gOpt_in (by assumption) ?_)
  | (refine dec_yes (dec_t (by first | assumption | omega)) ?_)
  | (refine dec_no (dec_f (by first | assumption | omega)) ?_)
  | (refine dec_yes (dec_nt (by first | assumption | omega)) ?_)
  | (refine dec_no (dec_nf (by first | assumption | omega)) ?_))
local macro_rules | `(tactic| walk_at "u") => `(tactic| (conv => whnf); repeat ((walk_at "v"); (conv => whnf)))

--opts {"cut": [], "dictarg":{("standing_ahead","sorted(before)")}}
def encS : Option (List Nat) → D
  | none => .non
  | some l => .lst (nats l)
/-- what standing_ahead tells, by the flow -/
def StandR (L : List (Option (List Key))) (res : List (Option (List Nat))) : Prop := res.length = L.length ∧ ∀ t, (L[t]? = some none → res[t]? = some none) ∧ ∀ S, L[t]? = some (some S) →
  ∃ l : List Nat, res[t]? = some (some (l ++ [t])) ∧ l.Pairwise (· ≤ ·) ∧ l.Nodup ∧ ∀ x, x ∈ l ↔ (Sum.inl ((x : Nat) : Int) : Key) ∈ S
theorem StandR.snoc {L : List (Option (List Key))} {res : List (Option (List Nat))} {o : Option (List Key)} {r : Option (List Nat)} (h : StandR L res) (h1 : o = none → r = none)
    (h2 : ∀ S, o = some S → ∃ l : List Nat, r = some (l ++ [res.length]) ∧ l.Pairwise (· ≤ ·) ∧ l.Nodup ∧ ∀ x, x ∈ l ↔ (Sum.inl ((x : Nat) : Int) : Key) ∈ S) : StandR (L ++ [o]) (res ++ [r]) := by
  refine ⟨by simp [h.1], fun t => ?_⟩
  by_cases c : t < L.length
  · rw [List.getElem?_append_left c, List.getElem?_append_left (by rw [h.1]; exact c)]
    exact h.2 t
  · rw [List.getElem?_append_right (by omega), List.getElem?_append_right (by rw [h.1]; omega), h.1]
    cases z : t - L.length with
    | zero =>
      have : t = res.length := by rw [h.1]; omega
      subst this
      refine ⟨fun q => ?_, fun S q => ?_⟩
      · have q : o = none := by simpa using q
        rw [h1 q]; rfl
      · have q : o = some S := by simpa using q
        obtain ⟨l, e, r⟩ := h2 S q
        exact ⟨l, by rw [e]; rfl, r⟩
    | succ y => exact ⟨fun q => by simp at q, fun S q => by simp at q⟩
theorem nk_of : ∀ {S : List Key}, (∀ x ∈ S, ∃ i : Nat, x = Sum.inl (i : Int)) → ∃ l, S = nk l
  | [], _ => ⟨[], rfl⟩
  | x :: S, h => by
    obtain ⟨i, rfl⟩ := h x (by simp)
    obtain ⟨l, rfl⟩ := nk_of (S := S) fun y hy => h y (by simp [hy])
    exact ⟨i :: l, rfl⟩
theorem keyInts_nk : ∀ l : List Nat, keyInts (tr (nk l)) = some (l.map fun i => ((i : Nat) : Int))
  | [] => rfl
  | i :: l => by
    show (keyInts (tr (nk l))).map (((i : Nat) : Int) :: ·) = _
    rw [keyInts_nk l]
    rfl
theorem nat_ints : ∀ {ys : List Int}, (∀ y ∈ ys, 0 ≤ y) → ys = (ys.map Int.toNat).map fun i => ((i : Nat) : Int)
  | [], _ => rfl
  | y :: ys, h => by
    rw [List.map_cons, List.map_cons, ← nat_ints (ys := ys) fun z hz => h z (by simp [hz])]
    rw [Int.toNat_of_nonneg (h y (by simp))]
def wfStand (Cs : List Addr) : WF := fun _ ds _ Q => ∃ u ks, ds = [u] ∧ UnitIs Cs u ks ∧ GoodG ks ∧ 0 < ks.length ∧ ks.length < 64 ∧
  ∀ L res, Flo ks (fun i => [Sum.inl ((i : Nat) : Int)]) (nk (List.range ks.length)) (edge ks) L → L[0]? = some (some []) → StandR L res → Q (.nw (res.map encS))
section
variable {P : Program} {w : World} {K : PySem.W.Frag} {mg : Str → Option Value} {base : Heap} {Cs : List Addr}
theorem ok_standing_ahead {f : Addr} {fd : FuncData} (T : Txt K mg Cs) (F : Fun K "standing_ahead" "standing_ahead" s_standing_ahead f fd)
    {f1 : Addr} {d1 : FuncData} (F_told_ahead : FnG P w K mg base 3 f1 d1 ["unit", "things"] (spV K (wfTold Cs))) (G_told_ahead : Glob K mg "told_ahead" f1 d1 ["unit", "things"]) : FnG P w K mg base 4 f fd ["unit"] (spV K (wfStand Cs)) := by
  refine def_ok F sc_standing_ahead (fun R ds Xn Q' h => ?_) fun R cdv A outer s H E hg hr hp => ⟨_, _, (b_cons (s_set 2 sc_standing_ahead.nd (v_call F_told_ahead G_told_ahead hg (hr.mono (by decide)) hp (a_cons (v_var 0) (a_cons (v_lc rfl sc_standing_ahead.nd (i_rng1 T.n_range (v_b1 cr_lenA unw_len T.n_len PySem.boot_len (v_fld T.at_rows (v_var 0)))) (own := [("at", 1)]) rfl (fun _ _ _ _ _ => (g_name 1 sc_standing_ahead.nd)) (fun _ _ _ _ _ => ts_nil) (fun _ _ _ _ _ => (v_lst (a_cons (v_var 1) a_nil)))) a_nil))))
  (b_frz 2 (b_one (s_ret (v_lc rfl sc_standing_ahead.nd (i_enum T.n_enumerate (v_var 2)) (own := [("at", 1), ("before", 3)]) rfl (fun _ _ _ _ _ => (g_tup rfl (gs_cons 1 sc_standing_ahead.nd (gs_cons 3 sc_standing_ahead.nd gs_nil)))) (fun _ _ _ _ _ => ts_nil) (fun _ _ _ _ _ => (v_if (t_cmp c_is (v_var 3) v_non) v_non (v_add (v_b1 (call_sortedDI rfl) unw_sortedD T.n_sorted (by decide +kernel) (v_var 3)) (v_lst (a_cons (v_var 1) a_nil)))))))))), fun ds Xn Q' h => ?_⟩
  · obtain ⟨u, ks, rfl, _⟩ := h
    rfl
  · obtain ⟨u, ks, rfl, hu, g, hn0, hn1, hq⟩ := h
    have hu' := hu
    obtain ⟨C, gs, rows, rfl, hC, hrows, hks⟩ := hu'
    have e := hks.length
    clear hg hr hp T F
    walk_at "u"
    refine ⟨line_le (by rw [rngD_rgs, ← rgs_map]; simp; omega), ?_⟩
    refine lcW_ind (fun ds acc => ∃ j m, ds = rgs j m ∧ j + m = ks.length ∧ acc = (List.range j).map fun i => D.lst [.int (i : Nat)]) ?_ ?_ ⟨0, ks.length, by rw [← rngD_rgs, ← e]; rfl, by omega, rfl⟩
    rotate_left
    · rintro d ds acc ⟨j, m, e1, hm, rfl⟩ ih
      cases m with
      | zero => cases e1
      | succ m =>
        obtain ⟨rfl, rfl⟩ := List.cons.inj e1
        walk_at "u"
        exact ih _ ⟨j + 1, m, rfl, by omega, by rw [List.range_succ, List.map_append]; rfl⟩
    rintro acc ⟨j, m, e1, hm, rfl⟩
    cases m with
    | succ m => cases e1
    | zero =>
    obtain rfl : j = ks.length := by omega
    walk_at "u"
    refine ⟨_, ks, _, fun i => [Sum.inl ((i : Nat) : Int)], nk (List.range ks.length), rfl, hu, g, hn0, by omega, by simp [nk]; omega, fun i hi => ⟨?_, by simp, fun x hx => ?_⟩, fun L fl z => ?_⟩
    · rw [List.getElem?_map, List.getElem?_range hi]
      rfl
    · rw [List.mem_singleton.mp hx]
      exact nk_mem.mpr (by simpa using hi)
    have ll := fl.len
    walk_at "u"
    refine ⟨line_le (by rw [enumD_len]; simp; omega), ?_⟩
    refine lcW_ind (fun ds acc => ∃ (dn rest : List (Option (List Key))) (res : List (Option (List Nat))), L = dn ++ rest ∧ ds = enumD dn.length (rest.map enc) ∧ acc = res.map encS ∧ StandR dn res) ?_ ?_ ⟨[], L, [], rfl, rfl, rfl, rfl, fun t => ⟨fun h => by simp at h, fun S h => by simp at h⟩⟩
    · rintro acc ⟨dn, rest, res, eL, e1, rfl, sr⟩
      cases rest with
      | cons o rest => cases e1
      | nil =>
      rw [List.append_nil] at eL
      subst eL
      exact hq _ res fl z sr
    · rintro d ds acc ⟨dn, rest, res, eL, e1, rfl, sr⟩ ih
      cases rest with
      | nil => cases e1
      | cons o rest =>
      obtain ⟨rfl, rfl⟩ := List.cons.inj e1
      have hat : L[dn.length]? = some o := by rw [eL]; simp
      cases o with
      | none =>
        walk_at "u"
        exact ih _ ⟨dn ++ [none], rest, res ++ [none], by rw [eL]; simp, by rw [List.length_append]; rfl, by rw [List.map_append]; rfl, sr.snoc (fun _ => rfl) fun S h => by cases h⟩
      | some S =>
        obtain ⟨s1, s2⟩ := fl.sub _ S hat
        obtain ⟨l0, rfl⟩ := nk_of (S := S) fun x hx => by
          obtain ⟨i, _, rfl⟩ := List.mem_map.mp (s2 x hx)
          exact ⟨i, rfl⟩
        have sl := nodup_len s1 s2
        have hk := keyInts_nk l0
        have n0 : l0.Nodup := by
          unfold nk at s1
          exact List.Pairwise.imp (fun h e => h (by rw [e])) (List.pairwise_map.mp s1)
        simp only [nk, List.length_map, List.length_range] at sl
        walk_at "u"
        refine ⟨by simp; omega, fun ys h1 h2 => ?_⟩
        have yl : ys.length = l0.length := by rw [h1.length_eq, List.length_map]
        have pos : ∀ y ∈ ys, 0 ≤ y := fun y hy => by
          obtain ⟨i, _, rfl⟩ := List.mem_map.mp (h1.mem_iff.mp hy)
          omega
        have ey := nat_ints pos
        have em : ∀ x : Nat, x ∈ ys.map Int.toNat ↔ x ∈ l0 := fun x => by
          rw [List.mem_map]
          constructor
          · rintro ⟨y, hy, rfl⟩
            obtain ⟨i, hi, rfl⟩ := List.mem_map.mp (h1.mem_iff.mp hy)
            simpa using hi
          · intro hx
            exact ⟨(x : Int), h1.mem_iff.mpr (List.mem_map.mpr ⟨x, hx, rfl⟩), by simp⟩
        have yn : ys.Nodup := h1.nodup_iff.mpr (List.Pairwise.map _ (fun x y ne e => ne (by omega)) n0)
        walk_at "u"
        refine ih _ ⟨dn ++ [some (nk l0)], rest, res ++ [some (ys.map Int.toNat ++ [dn.length])], by rw [eL]; simp, by rw [List.length_append]; rfl, ?_, sr.snoc (fun h => by cases h) fun S h => ?_⟩
        · rw [List.map_append]
          show res.map encS ++ [D.lst (ys.map D.int ++ [.int ((dn.length : Nat) : Int)])] = res.map encS ++ [D.lst (nats (ys.map Int.toNat ++ [dn.length]))]
          rw [nats_append, show nats (ys.map Int.toNat) = ys.map D.int from by unfold nats; rw [show (fun t : Nat => D.int (t : Nat)) = D.int ∘ (fun t : Nat => ((t : Nat) : Int)) from rfl, ← List.map_map, ← ey]]
          rfl
        · cases h
          refine ⟨_, by rw [← sr.1], ?_, ?_, fun x => (em x).trans nk_mem.symm⟩
          · exact List.Pairwise.map _ (fun x y h => Int.toNat_le_toNat h) h2
          · refine List.pairwise_map.mpr (yn.imp_of_mem fun {x y} hx hy h e => h ?_)
            have := pos x hx
            have := pos y hy
            omega
end
end K54

set_option Elab.async false
set_option maxRecDepth 100000
set_option linter.all false
set_option maxHeartbeats 4000000
namespace K54
open PySem L2 VH K50
local macro_rules | `(tactic| walk_at "w") => `(tactic| conv => whnf)
local macro_rules | `(tactic| walk_at "s") => `(tactic| first | assumption | decide | omega | rfl | exact (show (0 : Int) < _ from by decide) | exact ⟨by decide, by decide⟩ | exact nats_flat | exact Or.inl (Or.inl ⟨by decide, by decide⟩) | exact Or.inl (Or.inr ⟨by decide, by decide⟩) | exact Nat.le_of_ble_eq_true rfl | exact line_le (by simp; omega) | exact line_lt (by simp; omega) | exact line_lt (by omega) | exact line_le (by omega))
local macro_rules | `(tactic| walk_at "v") => `(tactic| first
  | (refine And.intro (by walk_at "s") ?_)
  | (refine gOpt_in (by assumption) ?_)
  | (refine dec_yes (dec_t (by first | assumption | omega)) ?_)
  | (refine dec_no (dec_f (by first | assumption | omega)) ?_)
  | (refine dec_yes (dec_nt (by first | assumption | omega)) ?_)
  | (refine dec_no (dec_nf (by first | assumption | omega)) ?_))
local macro_rules | `(tactic| walk_at "u") => `(tactic| (conv => whnf); repeat ((walk_at "v"); (conv => whnf)))

--opts {"cut": [], "frzD": {("round_rows","rows_come_to(forth, at)")}, "keys":{("round_rows","rows_come_to(forth, at)")}}
abbrev s_round_rows : Stmt := topS 14
theorem sc_round_rows : FnScope ["unit", "at", "row", "target", "forth", "_", "back", "targets", "ahead"] ["unit", "at"] (defScope s_round_rows) := ⟨rfl, rfl, rfl, by decide +kernel, rfl, by decide +kernel, by decide +kernel⟩
def castL (l : List Nat) : List Int := l.map fun i => ((i : Nat) : Int)
def bkN (row : Nat) : List Nat → List (List Nat) → List (List Nat)
  | [], cs => cs
  | t :: ts, cs => bkN row ts (cs.set t (cs.getD t [] ++ [row]))
def bksN : Nat → List (List Nat) → List (List Nat) → List (List Nat)
  | _, [], cs => cs
  | i, ts :: r, cs => bksN (i + 1) r (bkN i ts cs)
theorem bk_cast {row : Nat} : ∀ {l : List Nat} {cs : List (List Nat)}, bk ((row : Nat) : Int) l (cs.map castL) = (bkN row l cs).map castL
  | [], _ => rfl
  | t :: l, cs => by
    have e : (cs.map castL).getD t [] = castL (cs.getD t []) := by
      rw [List.getD_eq_getElem?_getD, List.getD_eq_getElem?_getD, List.getElem?_map]
      cases cs[t]? <;> rfl
    show bk _ l ((cs.map castL).set t ((cs.map castL).getD t [] ++ [((row : Nat) : Int)])) = _
    rw [e, show castL (cs.getD t []) ++ [((row : Nat) : Int)] = castL (cs.getD t [] ++ [row]) by simp [castL], ← List.map_set, bk_cast]
    rfl
theorem bks_cast : ∀ {G : List (List Nat)} {i : Nat} {cs : List (List Nat)}, bks i G (cs.map castL) = (bksN i G cs).map castL
  | [], _, _ => rfl
  | l :: G, i, cs => by
    show bks (i + 1) G (bk ((i : Nat) : Int) l (cs.map castL)) = _
    rw [bk_cast, bks_cast]
    rfl
theorem bkN_len {row : Nat} : ∀ {l : List Nat} {cs : List (List Nat)}, (bkN row l cs).length = cs.length
  | [], _ => rfl
  | t :: l, cs => by show (bkN row l _).length = _; rw [bkN_len, List.length_set]
theorem bksN_len : ∀ {G : List (List Nat)} {i : Nat} {cs : List (List Nat)}, (bksN i G cs).length = cs.length
  | [], _, _ => rfl
  | l :: G, i, cs => by show (bksN (i + 1) G _).length = _; rw [bksN_len, bkN_len]
theorem bkN_mem {row : Nat} : ∀ {l : List Nat} {cs : List (List Nat)} {x y : Nat}, y ∈ (bkN row l cs).getD x [] ↔ y ∈ cs.getD x [] ∨ (y = row ∧ x ∈ l ∧ x < cs.length)
  | [], cs, x, y => by simp [bkN]
  | t :: l, cs, x, y => by
    show y ∈ (bkN row l (cs.set t (cs.getD t [] ++ [row]))).getD x [] ↔ _
    rw [bkN_mem, List.length_set]
    by_cases c : x = t
    · subst c
      by_cases h : x < cs.length
      · have e : (cs.set x (cs.getD x [] ++ [row])).getD x [] = cs.getD x [] ++ [row] := by
          rw [List.getD_eq_getElem?_getD, List.getElem?_set_self h]; rfl
        rw [e, List.mem_append, List.mem_singleton]
        constructor
        · rintro ((q | q) | q)
          · exact .inl q
          · exact .inr ⟨q, by simp, h⟩
          · exact .inr ⟨q.1, by simp, h⟩
        · rintro (q | q)
          · exact .inl (.inl q)
          · exact .inl (.inr q.1)
      · rw [List.set_eq_of_length_le (by omega)]
        constructor
        · exact fun q => q.imp id fun q => absurd q.2.2 h
        · exact fun q => q.imp id fun q => absurd q.2.2 h
    · have e : (cs.set t (cs.getD t [] ++ [row])).getD x [] = cs.getD x [] := by
        rw [List.getD_eq_getElem?_getD, List.getElem?_set_ne (fun z => c z.symm), List.getD_eq_getElem?_getD]
      rw [e]
      simp [c]
theorem bksN_mem : ∀ {G : List (List Nat)} {i : Nat} {cs : List (List Nat)} {x y : Nat}, y ∈ (bksN i G cs).getD x [] ↔ y ∈ cs.getD x [] ∨ (x < cs.length ∧ ∃ k l, G[k]? = some l ∧ y = i + k ∧ x ∈ l)
  | [], i, cs, x, y => by simp [bksN]
  | l :: G, i, cs, x, y => by
    show y ∈ (bksN (i + 1) G (bkN i l cs)).getD x [] ↔ _
    rw [bksN_mem, bkN_mem, bkN_len]
    constructor
    · rintro ((q | ⟨q1, q2, q3⟩) | ⟨h, k, m, h1, h2, h3⟩)
      · exact .inl q
      · exact .inr ⟨q3, 0, l, rfl, by omega, q2⟩
      · exact .inr ⟨h, k + 1, m, by simpa using h1, by omega, h3⟩
    · rintro (q | ⟨h, k, m, h1, h2, h3⟩)
      · exact .inl (.inl q)
      · cases k with
        | zero => cases h1; exact .inl (.inr ⟨by omega, h3, h⟩)
        | succ k => exact .inr ⟨h, k, m, by simpa using h1, by omega, h3⟩
/-- the steps that stay at row a or behind it -/
def forthL (ks : List Kd) (a : Nat) : List (List Nat) := (List.range ks.length).map fun p => (ded [] (steps ks p)).filter fun t => decide (a ≤ t)
def backL (ks : List Kd) (a : Nat) : List (List Nat) := bksN 0 (forthL ks a) (List.replicate ks.length [])
theorem forth_len {ks : List Kd} {a : Nat} : (forthL ks a).length = ks.length := by simp [forthL]
theorem back_len {ks : List Kd} {a : Nat} : (backL ks a).length = ks.length := by rw [backL, bksN_len, List.length_replicate]
theorem forth_lt {ks : List Kd} {a : Nat} (g : GoodG ks) {i : Nat} {l : List Nat} (h : (forthL ks a)[i]? = some l) : ∀ x ∈ l, x < ks.length := by
  intro x hx
  unfold forthL at h
  rw [List.getElem?_map] at h
  obtain ⟨p, _, rfl⟩ := Option.map_eq_some_iff.mp h
  have := (List.mem_filter.mp hx).1
  rw [ded_mem] at this
  exact steps_lt g (by simpa using this)
theorem back_mem {ks : List Kd} {a x y : Nat} : y ∈ (backL ks a).getD x [] ↔ x < ks.length ∧ ∃ l, (forthL ks a)[y]? = some l ∧ x ∈ l := by
  unfold backL
  rw [bksN_mem, List.length_replicate]
  have e : (List.replicate ks.length ([] : List Nat)).getD x [] = [] := by
    rw [List.getD_eq_getElem?_getD, List.getElem?_replicate]
    split <;> rfl
  rw [e]
  constructor
  · rintro (q | ⟨h, k, l, h1, h2, h3⟩)
    · cases q
    · exact ⟨h, l, by rw [h2, Nat.zero_add]; exact h1, h3⟩
  · rintro ⟨h, l, h1, h2⟩
    exact .inr ⟨h, y, l, h1, by omega, h2⟩
theorem nest_back {ks : List Kd} {a : Nat} : nestD (bks 0 (forthL ks a) (List.replicate ks.length [])) = .lst ((backL ks a).map fun l => .lst (nats l)) := by
  have e : (List.replicate ks.length ([] : List Int)) = (List.replicate ks.length ([] : List Nat)).map castL := by simp [castL]
  rw [e, bks_cast]
  unfold nestD backL
  rw [List.map_map]
  congr 1
  refine List.map_congr_left fun l _ => ?_
  show D.lst ((castL l).map D.int) = _
  unfold castL nats
  rw [List.map_map]
  rfl
theorem sum_le {c : Nat} : ∀ {G : List (List Nat)}, (∀ l ∈ G, l.length ≤ c) → (G.map List.length).sum ≤ c * G.length
  | [], _ => by simp
  | l :: G, h => by
    have h1 := h l (by simp)
    have h2 := sum_le (G := G) fun m hm => h m (by simp [hm])
    rw [List.map_cons, List.sum_cons, List.length_cons, Nat.mul_succ]
    omega
def wfRound (Cs : List Addr) : WF := fun _ ds _ Q => ∃ u ks, ∃ a : Nat, ds = [u, .int a] ∧ UnitIs Cs u ks ∧ GoodG ks ∧ a < ks.length ∧ ks.length < 64 ∧
  ∀ l : List Nat, l.Pairwise (· ≤ ·) → l.Nodup → (∀ x, x ∈ l ↔ Reach (forthL ks a) a x ∧ Reach (backL ks a) a x) → Q (.nw (nats l))
section
variable {P : Program} {w : World} {K : PySem.W.Frag} {mg : Str → Option Value} {base : Heap} {Cs : List Addr}
theorem ok_round_rows {f : Addr} {fd : FuncData} (T : Txt K mg Cs) (F : Fun K "round_rows" "round_rows" s_round_rows f fd)
    {f1 : Addr} {d1 : FuncData} (F_next_rows : FnG P w K mg base 2 f1 d1 ["unit", "at"] (spV K (wfNext Cs))) (G_next_rows : Glob K mg "next_rows" f1 d1 ["unit", "at"])
    {f2 : Addr} {d2 : FuncData} (F_rows_come_to : FnG P w K mg base 1 f2 d2 ["steps", "at"] (spV K wfCome)) (G_rows_come_to : Glob K mg "rows_come_to" f2 d2 ["steps", "at"]) : FnG P w K mg base 3 f fd ["unit", "at"] (spV K (wfRound Cs)) := by
  refine def_ok F sc_round_rows (fun R ds Xn Q' h => ?_) fun R cdv A outer s H E hg hr hp => ⟨_, _, (b_cons (s_setLc 4 rfl sc_round_rows.nd (i_rng1 T.n_range (v_b1 cr_lenA unw_len T.n_len PySem.boot_len (v_fld T.at_rows (v_var 0)))) (own := [("row", 2)]) rfl (fun _ _ _ _ _ => (g_name 2 sc_round_rows.nd)) (fun _ _ _ _ _ => ts_nil) (fun _ _ _ _ _ => (v_lc rfl sc_round_rows.nd (i_seq (v_call F_next_rows G_next_rows hg (hr.mono (by decide)) passN (a_cons (v_var 0) (a_cons (v_var 2) a_nil)))) (own := [("target", 3)]) rfl (fun _ _ _ _ _ => (g_name 3 sc_round_rows.nd)) (fun _ _ _ _ _ => (ts_one (t_cmp c_ge (v_var 3) (v_var 1)))) (fun _ _ _ _ _ => (v_var 3)))) (sw_true rfl rfl rfl (by decide +kernel)))
  (b_frz 4 (b_back (s_setLc 6 rfl sc_round_rows.nd (i_seq (v_fld T.at_rows (v_var 0))) (own := [("_", 5)]) rfl (fun _ _ _ _ _ => (g_name 5 sc_round_rows.nd)) (fun _ _ _ _ _ => ts_nil) (fun _ _ _ _ _ => (v_lst a_nil)) (sw_true rfl rfl rfl (by decide +kernel))) (i_seq (v_fld T.at_rows (v_var 0))) (p_for (R := R) (E := E) (passes_of rfl) rfl (i_enum T.n_enumerate (v_var 4)) (g_tup rfl (gs_cons 2 sc_round_rows.nd (gs_cons 7 sc_round_rows.nd gs_nil))) (pss_one (p_for (R := R) (E := E) (passes_of rfl) rfl (i_seq (v_var 7)) (g_name 3 sc_round_rows.nd) (pss_one (p_app (R := R) (E := E) (v_ix hr (v_var 6) (v_var 3)) (v_var 2)))))) (b_frz 6 (b_cons (s_set 8 sc_round_rows.nd (v_call F_rows_come_to G_rows_come_to hg (hr.mono (by decide)) hp (a_cons (v_var 6) (a_cons (v_var 1) a_nil))))
  (b_frz 4 (b_one (s_ret (v_b1 cr_sortedI unw_sorted T.n_sorted (by decide +kernel) (v_lc rfl sc_round_rows.nd (i_keys (v_frzD (v_call F_rows_come_to G_rows_come_to hg (hr.mono (by decide)) hp (a_cons (v_var 4) (a_cons (v_var 1) a_nil))))) (own := [("row", 2)]) rfl (fun _ _ _ _ _ => (g_name 2 sc_round_rows.nd)) (fun _ _ _ _ _ => (ts_one (t_cmp (c_in hr) (v_var 2) (v_var 8)))) (fun _ _ _ _ _ => (v_var 2)))))))))))), fun ds Xn Q' h => ?_⟩
  · obtain ⟨u, ks, a, rfl, _⟩ := h
    rfl
  · obtain ⟨u, ks, a, rfl, hu, g, ha, hn, hq⟩ := h
    have hu' := hu
    obtain ⟨C, gs, rows, rfl, hC, hrows, hks⟩ := hu'
    have e := hks.length
    clear hg hr hp T F
    walk_at "u"
    refine ⟨line_le (by rw [rngD_rgs, ← rgs_map]; simp; omega), ?_⟩
    refine lcW_ind (fun ds acc => ∃ j m, ds = rgs j m ∧ j + m = ks.length ∧ acc = (List.range j).map fun p => D.lst (nats ((ded [] (steps ks p)).filter fun t => decide (a ≤ t)))) ?_ ?_ ⟨0, ks.length, by rw [← rngD_rgs, ← e]; rfl, by omega, rfl⟩
    rotate_left
    · rintro d ds acc ⟨j, m, e1, hm, rfl⟩ ih
      cases m with
      | zero => cases e1
      | succ m =>
        obtain ⟨rfl, rfl⟩ := List.cons.inj e1
        have dlen := nat_len (S := ded [] (steps ks j)) (n := ks.length) (ded_nodup List.nodup_nil) fun x hx => by
          rw [ded_mem] at hx
          exact steps_lt g (by simpa using hx)
        have nl := nats_len (a := ded [] (steps ks j))
        walk_at "u"
        refine ⟨_, ks, j, rfl, hu, by omega, ?_⟩
        walk_at "u"
        refine lcW_ind (fun ds acc => ∃ l1 l2, ded [] (steps ks j) = l1 ++ l2 ∧ ds = nats l2 ∧ acc = nats (l1.filter fun t => decide (a ≤ t))) ?_ ?_ ⟨[], _, rfl, rfl, rfl⟩
        · rintro acc ⟨l1, l2, e3, e4, rfl⟩
          cases l2 with
          | cons t l2 => cases e4
          | nil =>
          rw [List.append_nil] at e3
          rw [← e3]
          walk_at "w"
          exact ih _ ⟨j + 1, m, rfl, by omega, by rw [List.range_succ, List.map_append]; rfl⟩
        · rintro d ds acc ⟨l1, l2, e3, e4, rfl⟩ ih2
          cases l2 with
          | nil => cases e4
          | cons t l2 =>
            cases e4
            by_cases c : a ≤ t
            · walk_at "u"
              exact ih2 _ ⟨l1 ++ [t], l2, by rw [e3]; simp, rfl, by simp [c, nats_append]; rfl⟩
            · walk_at "u"
              exact ih2 _ ⟨l1 ++ [t], l2, by rw [e3]; simp, rfl, by simp [c]⟩
    rintro acc ⟨j, m, e1, hm, rfl⟩
    cases m with
    | succ m => cases e1
    | zero =>
    obtain rfl : j = ks.length := by omega
    rw [show ((List.range ks.length).map fun p => D.lst (nats ((ded [] (steps ks p)).filter fun t => decide (a ≤ t)))) = (forthL ks a).map fun l => D.lst (natsD l) by rw [forthL, List.map_map]; rfl]
    walk_at "u"
    have fsum : ((forthL ks a).map List.length).sum < sizeLine := by
      refine Nat.lt_of_le_of_lt (sum_le (c := 64) fun l hl => ?_) (Nat.lt_of_le_of_lt (show 64 * (forthL ks a).length ≤ 64 * 64 by rw [forth_len]; omega) (by decide))
      obtain ⟨i, hi⟩ := List.getElem?_of_mem hl
      unfold forthL at hi
      rw [List.getElem?_map] at hi
      obtain ⟨p, _, rfl⟩ := Option.map_eq_some_iff.mp hi
      refine Nat.le_trans (List.length_filter_le ..) (Nat.le_trans (nat_len (ded_nodup List.nodup_nil) fun x hx => ?_) (Nat.le_of_lt hn))
      rw [ded_mem] at hx
      exact steps_lt g (by simpa using hx)
    refine ⟨forthL ks a, rfl, fun l hl t ht => ?_, fsum, ⟨Nat.le_of_ble_eq_true rfl, Nat.le_of_ble_eq_true rfl, Nat.le_of_ble_eq_true rfl, Nat.le_of_ble_eq_true rfl⟩, ?_⟩
    · obtain ⟨i, hi⟩ := List.getElem?_of_mem hl
      rw [e]
      exact forth_lt g hi t ht
    rw [e, nest_back]
    walk_at "u"
    have blt : ∀ (i : Nat) (l : List Nat), (backL ks a)[i]? = some l → ∀ x ∈ l, x < (backL ks a).length := fun i l hl x hx => by
      have : x ∈ (backL ks a).getD i [] := by rw [List.getD_eq_getElem?_getD, hl]; exact hx
      obtain ⟨_, l', h1, _⟩ := back_mem.mp this
      rw [back_len, ← forth_len (a := a)]
      exact (List.getElem?_eq_some_iff.mp h1).1
    refine ⟨backL ks a, a, rfl, by rw [back_len]; exact ha, by rw [back_len]; omega, blt, fun S nS hS => ?_⟩
    walk_at "u"
    refine ⟨forthL ks a, a, rfl, by rw [forth_len]; exact ha, by rw [forth_len]; omega, fun i l hl x hx => by rw [forth_len]; exact forth_lt g hl x hx, fun S2 nS2 hS2 => ?_⟩
    have s2lt : ∀ x ∈ S2, x < ks.length := fun x hx => by
      cases (hS2 x).mp hx with
      | one h1 h2 => exact forth_lt g h1 x h2
      | more _ h1 h2 => exact forth_lt g h1 x h2
    have s2len := nat_len nS2 s2lt
    walk_at "u"
    have kl : keysD (tr (nk S2)) = nats S2 := by
      rw [tr_keys]
      unfold nk nats
      rw [List.map_map]
      rfl
    rw [kl]
    refine ⟨line_le (by rw [nats_len]; omega), ?_⟩
    refine lcW_ind (fun ds acc => ∃ l1 l2, S2 = l1 ++ l2 ∧ ds = nats l2 ∧ acc = nats (l1.filter fun x => decide (x ∈ S))) ?_ ?_ ⟨[], S2, rfl, rfl, rfl⟩
    rotate_left
    · rintro d ds acc ⟨l1, l2, e3, e4, rfl⟩ ih
      cases l2 with
      | nil => cases e4
      | cons t l2 =>
        cases e4
        walk_at "u"
        by_cases c : t ∈ S
        · refine dec_yes (tr_get.mpr (nk_mem.mpr c)) ?_
          walk_at "u"
          exact ih _ ⟨l1 ++ [t], l2, by rw [e3]; simp, rfl, by simp [c, nats_append]; rfl⟩
        · refine dec_no (fun z => c (nk_mem.mp (tr_get.mp z))) ?_
          walk_at "u"
          exact ih _ ⟨l1 ++ [t], l2, by rw [e3]; simp, rfl, by simp [c]⟩
    rintro acc ⟨l1, l2, e3, e4, rfl⟩
    cases l2 with
    | cons t l2 => cases e4
    | nil =>
    rw [List.append_nil] at e3
    subst e3
    have hi : D.ints (nats (S2.filter fun x => decide (x ∈ S))) = some ((S2.filter fun x => decide (x ∈ S)).map fun i => ((i : Nat) : Int)) := by
      rw [← ints_map, List.map_map]
      rfl
    walk_at "u"
    intro ys h1 h2
    have pos : ∀ y ∈ ys, 0 ≤ y := fun y hy => by
      obtain ⟨i, _, rfl⟩ := List.mem_map.mp (h1.mem_iff.mp hy)
      omega
    have ey := nat_ints pos
    have yn : ys.Nodup := h1.nodup_iff.mpr (List.Pairwise.map _ (fun x y ne e => ne (by omega)) (nS2.filter _))
    have q := hq (ys.map Int.toNat) (List.Pairwise.map _ (fun x y h => Int.toNat_le_toNat h) h2) (List.pairwise_map.mpr (yn.imp_of_mem fun {x y} hx hy h e => h (by
      have := pos x hx
      have := pos y hy
      omega))) fun x => by
        rw [← hS2 x, ← hS x, List.mem_map]
        constructor
        · rintro ⟨y, hy, rfl⟩
          obtain ⟨i, hi, rfl⟩ := List.mem_map.mp (h1.mem_iff.mp hy)
          have := List.mem_filter.mp hi
          simpa using this
        · rintro ⟨a1, a2⟩
          exact ⟨(x : Int), h1.mem_iff.mpr (List.mem_map.mpr ⟨x, List.mem_filter.mpr ⟨a1, by simpa using a2⟩, rfl⟩), by simp⟩
    rw [show nats (ys.map Int.toNat) = ys.map D.int from by unfold nats; rw [show (fun t : Nat => D.int (t : Nat)) = D.int ∘ (fun t : Nat => ((t : Nat) : Int)) from rfl, ← List.map_map, ← ey]] at q
    exact q
end
end K54

set_option Elab.async false
set_option maxRecDepth 100000
set_option linter.all false
set_option maxHeartbeats 4000000
namespace K54
open PySem L2 VH K50
local macro_rules | `(tactic| walk_at "w") => `(tactic| conv => whnf)
local macro_rules | `(tactic| walk_at "s") => `(tactic| first | assumption | decide | omega | rfl | exact (show (0 : Int) < _ from by decide) | exact ⟨by decide, by decide⟩ | exact nats_flat | exact Or.inl (Or.inl ⟨by decide, by decide⟩) | exact Or.inl (Or.inr ⟨by decide, by decide⟩) | exact Nat.le_of_ble_eq_true rfl | exact line_le (by simp; omega) | exact line_lt (by simp; omega) | exact line_lt (by omega) | exact line_le (by omega))
local macro_rules | `(tactic| walk_at "v") => `(tactic| first
  | (refine And.intro (by walk_at "s") ?_)
  | (refine gOpt_in (by assumption) ?_)
  | (refine dec_yes (dec_t (by first | assumption | omega)) ?_)
  | (refine dec_no (dec_f (by first | assumption | omega)) ?_)
  | (refine dec_yes (dec_nt (by first | assumption | omega)) ?_)
  | (refine dec_no (dec_nf (by first | assumption | omega)) ?_))
local macro_rules | `(tactic| walk_at "u") => `(tactic| (conv => whnf); repeat ((walk_at "v"); (conv => whnf)))

--opts {}
abbrev s_behind_run : Stmt := topS 29
theorem sc_behind_run : FnScope ["text", "start", "signs", "end"] ["text", "start", "signs"] (defScope s_behind_run) := ⟨rfl, rfl, rfl, by decide +kernel, rfl, by decide +kernel, by decide +kernel⟩
abbrev s_is_name : Stmt := topS 30
theorem sc_is_name : FnScope ["word"] ["word"] (defScope s_is_name) := ⟨rfl, rfl, rfl, by decide +kernel, rfl, by decide +kernel, by decide +kernel⟩
abbrev s_is_word : Stmt := topS 35
theorem sc_is_word : FnScope ["value"] ["value"] (defScope s_is_word) := ⟨rfl, rfl, rfl, by decide +kernel, rfl, by decide +kernel, by decide +kernel⟩
abbrev s_is_small : Stmt := topS 36
theorem sc_is_small : FnScope ["value"] ["value"] (defScope s_is_small) := ⟨rfl, rfl, rfl, by decide +kernel, rfl, by decide +kernel, by decide +kernel⟩
abbrev s_shaped : Stmt := topS 37
theorem sc_shaped : FnScope ["value", "word", "many"] ["value", "word", "many"] (defScope s_shaped) := ⟨rfl, rfl, rfl, by decide +kernel, rfl, by decide +kernel, by decide +kernel⟩
def one26 : Str := "abcdefghijklmnopqrstuvwxyz"
def Nm (s : Str) : Prop := s = "f" ∨ s = "n" ∨ s = "a" ∨ s = "x" ∨ s = "y"
def wfRun : WF := fun _ ds _ Q => ∃ s, ds = [.str s, .int 0, .str one26] ∧ Nm s ∧ Q (.sh (.int 1))
def wfNm : WF := fun _ ds _ Q => ∃ s, ds = [.str s] ∧ Nm s ∧ Q (.sh (.bl true))
def wfSmall : WF := fun _ ds _ Q => ∃ i : Int, ds = [.int i] ∧ Q (.sh (.bl (decide (-9999 ≤ i ∧ i ≤ 9999))))
def lenIs (t : List D) (n : Int) : Bool := decide ((t.length : Int) + 1 = n)
def wfShaped : WF := fun _ ds _ Q => ∃ (h w : Str) (t : List D) (n : Int), ds = [.tup (.str h :: t), .str w, .int n] ∧ t.length < 1000 ∧ ∃ b : Bool, (lenIs t n && decide (h = w)) = b ∧ Q (.sh (.bl b))
section
variable {P : Program} {w : World} {K : PySem.W.Frag} {mg : Str → Option Value} {base : Heap} {Cs Ss : List Addr} {aL aC aR aH : Addr}
theorem ok_behind_run {f : Addr} {fd : FuncData} (T : Txu K mg Cs Ss aL aC aR aH) (F : Fun K "behind_run" "behind_run" s_behind_run f fd) : FnG P w K mg base 1 f fd ["text", "start", "signs"] (spV K wfRun) := by
  refine def_ok F sc_behind_run (fun R ds Xn Q' h => ?_) fun R cdv A outer s H E hg hr hp => ⟨_, _, (b_cons (s_set 3 sc_behind_run.nd (v_var 1))
  (b_cons (s_while (passes_of rfl) (t_bool (w_and (t_cmp c_lt (v_var 3) (v_b1 cr_lenA unw_len T.n_len PySem.boot_len (v_var 0))) (w_and1 (t_cmp (c_in hr) (v_ix hr (v_var 0) (v_var 3)) (v_var 2)))))
  (b_one (s_aug 3 sc_behind_run.nd ip_add v_int)))
  (b_one (s_retV 3)))), fun ds Xn Q' h => ?_⟩
  · obtain ⟨s, rfl, _⟩ := h
    rfl
  · obtain ⟨s, rfl, hs, hq⟩ := h
    clear hg hr hp T F
    have in0 : s.length = 1 ∧ (!(Builtin.Str.occurrences one26 s 0 one26.length 1).isEmpty) = true ∧ s = ⟨#[s.cps.toList.getD 0 0]⟩ ∧ ixD s.cps.toList 0 = some (s.cps.toList.getD 0 0) := by
      rcases hs with rfl | rfl | rfl | rfl | rfl <;> exact ⟨rfl, by decide +kernel, rfl, rfl⟩
    obtain ⟨l1, i1, e1, x1⟩ := in0
    have lz : s.length ≤ sizeLine := by rw [l1]; decide
    have lz1 : (s.length : Int) = 1 := by rw [l1]; rfl
    walk_at "u"
    refine ⟨fun m env => ∃ j : Nat, m = 1 - j ∧ j ≤ 1 ∧ env = [.sh (.str s), .sh (.int 0), .sh (.str one26), .sh (.int (j : Nat))], ⟨1, 0, rfl, by omega, rfl⟩, ?_⟩
    rintro m env ⟨j, rfl, hj, rfl⟩
    rcases (show j = 0 ∨ j = 1 by omega) with rfl | rfl
    · walk_at "u"
      refine dec_yes (by rw [if_neg (by decide), ← e1]; exact i1) ?_
      walk_at "u"
      exact ⟨0, by omega, 1, rfl, by omega, rfl⟩
    · walk_at "u"
      exact hq
theorem ok_is_name {f : Addr} {fd : FuncData} (T : Txu K mg Cs Ss aL aC aR aH) (F : Fun K "is_name" "is_name" s_is_name f fd)
    {f1 : Addr} {d1 : FuncData} (F_behind_run : FnG P w K mg base 1 f1 d1 ["text", "start", "signs"] (spV K wfRun)) (G_behind_run : Glob K mg "behind_run" f1 d1 ["text", "start", "signs"]) : FnG P w K mg base 2 f fd ["word"] (spV K wfNm) := by
  refine def_ok F sc_is_name (fun R ds Xn Q' h => ?_) fun R cdv A outer s H E hg hr hp => ⟨_, _, (b_cons (s_if (t_bool (w_or (t_cmp (c_in hr) (v_var 0) (v_glob (v := V.ref _) T.g_RESERVED rfl T.d_RESERVED)) (w_or1 (t_not (t_chain c_le c_le v_int (v_b1 cr_lenA unw_len T.n_len PySem.boot_len (v_var 0)) (v_gintE T.g_MOST_LETTERS) (by with_unfolding_all rfl))))))
  (b_one (s_ret v_bl))
  b_nil)
  (b_one (s_ret (v_cmp (c_eq hr) (v_call F_behind_run G_behind_run hg (hr.mono (by decide)) hp (a_cons (v_var 0) (a_cons v_int (a_cons (v_gstrE T.g_LETTERS) a_nil)))) (v_b1 cr_lenA unw_len T.n_len PySem.boot_len (v_var 0)))))), fun ds Xn Q' h => ?_⟩
  · obtain ⟨s, rfl, _⟩ := h
    rfl
  · obtain ⟨s, rfl, hs, hq⟩ := h
    clear hg hr hp T F
    have in0 : s.length = 1 ∧ ((strD ["proc", "list", "needs", "gives", "keeps", "falls", "from", "to", "let", "while", "if", "else", "end", "choose", "check", "call", "swap", "return", "skip", "and", "or", "not", "all", "sorted", "below", "either", "len", "old", "moves", "result"]).any fun y => eqF y (.str s)) = false := by
      rcases hs with rfl | rfl | rfl | rfl | rfl <;> exact ⟨rfl, by decide +kernel⟩
    obtain ⟨l1, i1⟩ := in0
    have lz : s.length ≤ sizeLine := by rw [l1]; decide
    have lz1 : (s.length : Int) = 1 := by rw [l1]; rfl
    walk_at "u"
    refine dec_no (by rw [if_neg (by decide)]; exact (by rw [i1]; decide : ¬ (((strD _).any fun y => eqF y (.str s)) = true))) ?_
    walk_at "u"
    refine ⟨s, rfl, hs, ?_⟩
    walk_at "u"
    exact eqQ hq (by rw [lz1]; rfl)
theorem ok_is_small {f : Addr} {fd : FuncData} (T : Txu K mg Cs Ss aL aC aR aH) (F : Fun K "is_small" "is_small" s_is_small f fd) : FnG P w K mg base 1 f fd ["value"] (spV K wfSmall) := by
  refine def_ok F sc_is_small (fun R ds Xn Q' h => ?_) fun R cdv A outer s H E hg hr hp => ⟨_, _, (b_one (s_ret (v_and (v_cmp c_isT (v_t1 call_type1 unw_typ T.n_type (by decide +kernel) (v_var 0)) (v_bltn (n := "int") T.n_int (by decide +kernel))) (v_one (v_chain c_le c_le (v_neg (v_gintE T.g_MOST_NUMBER)) (v_var 0) (v_gintE T.g_MOST_NUMBER) (by with_unfolding_all rfl)))))), fun ds Xn Q' h => ?_⟩
  · obtain ⟨i, rfl, _⟩ := h
    rfl
  · obtain ⟨i, rfl, hq⟩ := h
    clear hg hr hp T F
    walk_at "u"
    refine dec_in (fun c => ?_) fun c => ?_
    · have c := of_decide_eq_true c
      walk_at "u"
      exact eqQ hq (by simp [c])
    · have c : ¬ (-9999 ≤ i) := fun z => c (decide_eq_true z)
      walk_at "u"
      exact eqQ hq (by simp [c])
theorem ok_shaped {f : Addr} {fd : FuncData} (T : Txu K mg Cs Ss aL aC aR aH) (F : Fun K "shaped" "shaped" s_shaped f fd) : FnG P w K mg base 1 f fd ["value", "word", "many"] (spV K wfShaped) := by
  refine def_ok F sc_shaped (fun R ds Xn Q' h => ?_) fun R cdv A outer s H E hg hr hp => ⟨_, _, (b_one (s_ret (v_and (v_cmp c_isT (v_t1 call_type1 unw_typ T.n_type (by decide +kernel) (v_var 0)) (v_bltn (n := "tuple") T.n_tuple (by decide +kernel))) (v_and (v_cmp (c_eq hr) (v_b1 cr_lenA unw_len T.n_len PySem.boot_len (v_var 0)) (v_var 2)) (v_one (v_cmp (c_eq hr) (v_ix hr (v_var 0) v_int) (v_var 1))))))), fun ds Xn Q' h => ?_⟩
  · obtain ⟨h, w, t, n, rfl, _⟩ := h
    rfl
  · obtain ⟨h, w, t, n, rfl, hl, b, rfl, hq⟩ := h
    clear hg hr hp T F
    walk_at "u"
    refine dec_in (fun c => ?_) fun c => ?_
    · have c : ((t.length : Int) + 1 = n) := by simpa using c
      walk_at "u"
      exact eqQ hq (by unfold lenIs; rw [decide_eq_true c]; rfl)
    · have c : ¬ ((t.length : Int) + 1 = n) := fun z => c (by simpa using z)
      walk_at "u"
      exact eqQ hq (by unfold lenIs; rw [decide_eq_false c]; rfl)
theorem ok_is_word {f : Addr} {fd : FuncData} (T : Txu K mg Cs Ss aL aC aR aH) (F : Fun K "is_word" "is_word" s_is_word f fd)
    {f1 : Addr} {d1 : FuncData} (F_is_name : FnG P w K mg base 2 f1 d1 ["word"] (spV K wfNm)) (G_is_name : Glob K mg "is_name" f1 d1 ["word"]) : FnG P w K mg base 3 f fd ["value"] (spV K wfNm) := by
  refine def_ok F sc_is_word (fun R ds Xn Q' h => ?_) fun R cdv A outer s H E hg hr hp => ⟨_, _, (b_one (s_ret (v_and (v_cmp c_isT (v_t1 call_type1 unw_typ T.n_type (by decide +kernel) (v_var 0)) (v_bltn (n := "str") T.n_str (by decide +kernel))) (v_one (v_call F_is_name G_is_name hg (hr.mono (by decide)) hp (a_cons (v_var 0) a_nil)))))), fun ds Xn Q' h => ?_⟩
  · obtain ⟨s, rfl, _⟩ := h
    rfl
  · obtain ⟨s, rfl, hs, hq⟩ := h
    clear hg hr hp T F
    walk_at "u"
    exact ⟨s, rfl, hs, hq⟩
end
end K54

set_option Elab.async false
set_option maxRecDepth 100000
set_option linter.all false
set_option maxHeartbeats 4000000
namespace K54
open PySem L2 VH K50
local macro_rules | `(tactic| walk_at "w") => `(tactic| conv => whnf)
local macro_rules | `(tactic| walk_at "s") => `(tactic| first | assumption | decide | omega | rfl | exact (show (0 : Int) < _ from by decide) | exact ⟨by decide, by decide⟩ | exact nats_flat | exact Or.inl (Or.inl ⟨by decide, by decide⟩) | exact Or.inl (Or.inr ⟨by decide, by decide⟩) | exact Nat.le_of_ble_eq_true rfl | exact line_le (by simp; omega) | exact line_lt (by simp; omega) | exact line_lt (by omega) | exact line_le (by omega))
local macro_rules | `(tactic| walk_at "v") => `(tactic| first
  | (refine And.intro (by walk_at "s") ?_)
  | (refine gOpt_in (by assumption) ?_)
  | (refine dec_yes (dec_t (by first | assumption | omega)) ?_)
  | (refine dec_no (dec_f (by first | assumption | omega)) ?_)
  | (refine dec_yes (dec_nt (by first | assumption | omega)) ?_)
  | (refine dec_no (dec_nf (by first | assumption | omega)) ?_))
local macro_rules | `(tactic| walk_at "u") => `(tactic| (conv => whnf); repeat ((walk_at "v"); (conv => whnf)))

--opts {}
abbrev s_Scope___init__ : Stmt := inClass (topS 34) 0
theorem sc_Scope___init__ : FnScope ["self", "numbers", "lists", "olds"] ["self", "numbers", "lists", "olds"] (defScope s_Scope___init__) := ⟨rfl, rfl, rfl, by decide +kernel, rfl, by decide +kernel, by decide +kernel⟩
abbrev s_plain_fits : Stmt := topS 38
theorem sc_plain_fits : FnScope ["scope", "term"] ["scope", "term"] (defScope s_plain_fits) := ⟨rfl, rfl, rfl, by decide +kernel, rfl, by decide +kernel, by decide +kernel⟩
abbrev s_term_fits : Stmt := topS 40
theorem sc_term_fits : FnScope ["scope", "term"] ["scope", "term"] (defScope s_term_fits) := ⟨rfl, rfl, rfl, by decide +kernel, rfl, by decide +kernel, by decide +kernel⟩
abbrev s_range_fits : Stmt := topS 41
theorem sc_range_fits : FnScope ["scope", "lo", "hi"] ["scope", "lo", "hi"] (defScope s_range_fits) := ⟨rfl, rfl, rfl, by decide +kernel, rfl, by decide +kernel, by decide +kernel⟩
abbrev s_falls_fits : Stmt := topS 42
theorem sc_falls_fits : FnScope ["scope", "falls"] ["scope", "falls"] (defScope s_falls_fits) := ⟨rfl, rfl, rfl, by decide +kernel, rfl, by decide +kernel, by decide +kernel⟩
abbrev s_comparison_fits : Stmt := topS 43
theorem sc_comparison_fits : FnScope ["scope", "value"] ["scope", "value"] (defScope s_comparison_fits) := ⟨rfl, rfl, rfl, by decide +kernel, rfl, by decide +kernel, by decide +kernel⟩
abbrev s_promises_fit : Stmt := topS 56
theorem sc_promises_fit : FnScope ["scope", "promises", "promise"] ["scope", "promises"] (defScope s_promises_fit) := ⟨rfl, rfl, rfl, by decide +kernel, rfl, by decide +kernel, by decide +kernel⟩
local macro_rules | `(tactic| walk_at "h") => `(tactic| (refine ⟨_, _, _, _, rfl, Nat.le_of_ble_eq_true rfl, ?_⟩; first | (refine ⟨true, rfl, ?_⟩) | (refine ⟨false, rfl, ?_⟩)))
/-- the terms of the law's units -/
inductive Tm | n | x | y | num (k : Nat) | len
def tmD : Tm → D
  | .n => .tup [.str "var", .str "n", .int 0]
  | .x => .tup [.str "var", .str "x", .int 0]
  | .y => .tup [.str "var", .str "y", .int 0]
  | .num k => .tup [.str "num", .int (k : Nat)]
  | .len => .tup [.str "len", .str "a", .int 0]
def Tm.ok : Tm → Prop
  | .num k => k ≤ 1000
  | _ => True
def cmpD (t : Tm) : D := .tup [.str "cmp", .str "<", tmD .n, tmD t]
/-- the scope of a row -/
def scD (S : Addr) (olds : List D) : D := .obj S [("numbers", .lst [.str "n", .str "x", .str "y"]), ("lists", .lst [.str "a"]), ("olds", .lst olds)]
def wiScope : WIn := fun ds _ Q => ∃ ns ls os, ds = [ns, ls, os] ∧ Q [("numbers", ns), ("lists", ls), ("olds", os)]
def wfPlain (S : Addr) : WF := fun _ ds _ Q => ∃ os t, ds = [scD S os, tmD t] ∧ t.ok ∧ Q (.sh (.bl true))
def wfRange (S : Addr) : WF := fun _ ds _ Q => ∃ os t u, ds = [scD S os, tmD t, tmD u] ∧ t.ok ∧ u.ok ∧ Q (.sh (.bl true))
def wfFalls (S : Addr) : WF := fun _ ds _ Q => ∃ os t u, ds = [scD S os, .tup [tmD t, tmD u]] ∧ t.ok ∧ u.ok ∧ Q (.sh (.bl true))
def wfCmp (S : Addr) : WF := fun _ ds _ Q => ∃ os t, ds = [scD S os, cmpD t] ∧ t.ok ∧ Q (.sh (.bl true))
def wfNoPr : WF := fun _ ds _ Q => ∃ sc, ds = [sc, .tup []] ∧ Q (.sh (.bl true))
section
variable {P : Program} {w : World} {K : PySem.W.Frag} {mg : Str → Option Value} {base : Heap} {C S : Addr} {aL aC aR aH : Addr}
theorem ok_scope {f : Addr} {fd : FuncData} (T : Txu K mg [C] [S] aL aC aR aH) (F : Fun K "__init__" "Scope.__init__" s_Scope___init__ f fd) : FnG P w K mg base 1 f fd ["self", "numbers", "lists", "olds"] (spI K S wiScope) := by
  refine init_ok F sc_Scope___init__ (fun ds Xn Q' h => ?_) fun R cdv A outer s H E hg hr hp => ⟨_, _, (b_cons (s_fld 0 T.at_numbers (v_var 1))
  (b_cons (s_fld 0 T.at_lists (v_var 2))
  (b_one (s_fld 0 T.at_olds (v_var 3))))), fun ds Xn Q' h x => ?_⟩
  · obtain ⟨ns, ls, os, rfl, _⟩ := h
    rfl
  · obtain ⟨ns, ls, os, rfl, q⟩ := h
    have hS : S ∈ [S] := by simp
    clear hg hr hp T F
    walk_at "u"
    exact q
theorem ok_plain_fits {f : Addr} {fd : FuncData} (T : Txu K mg [C] [S] aL aC aR aH) (F : Fun K "plain_fits" "plain_fits" s_plain_fits f fd)
    {f1 : Addr} {d1 : FuncData} (F_shaped : FnG P w K mg base 1 f1 d1 ["value", "word", "many"] (spV K (wfShaped))) (G_shaped : Glob K mg "shaped" f1 d1 ["value", "word", "many"])
    {f2 : Addr} {d2 : FuncData} (F_is_small : FnG P w K mg base 1 f2 d2 ["value"] (spV K (wfSmall))) (G_is_small : Glob K mg "is_small" f2 d2 ["value"]) : FnG P w K mg base 3 f fd ["scope", "term"] (spV K (wfPlain S )) := by
  refine def_ok F sc_plain_fits (fun R ds Xn Q' h => ?_) fun R cdv A outer s H E hg hr hp => ⟨_, _, (b_cons (s_if (t_tru (v_call F_shaped G_shaped hg (hr.mono (by decide)) hp (a_cons (v_var 1) (a_cons v_str (a_cons v_int a_nil)))))
  (b_one (s_ret (v_call F_is_small G_is_small hg (hr.mono (by decide)) hp (a_cons (v_ix hr (v_var 1) v_int) a_nil))))
  b_nil)
  (b_cons (s_if (t_tru (v_call F_shaped G_shaped hg (hr.mono (by decide)) hp (a_cons (v_var 1) (a_cons v_str (a_cons v_int a_nil)))))
  (b_one (s_ret (v_and (v_cmp (c_in hr) (v_ix hr (v_var 1) v_int) (v_fld T.at_numbers (v_var 0))) (v_one (v_call F_is_small G_is_small hg (hr.mono (by decide)) hp (a_cons (v_ix hr (v_var 1) v_int) a_nil))))))
  b_nil)
  (b_one (s_ret (v_and (v_call F_shaped G_shaped hg (hr.mono (by decide)) hp (a_cons (v_var 1) (a_cons v_str (a_cons v_int a_nil)))) (v_and (v_cmp (c_in hr) (v_ix hr (v_var 1) v_int) (v_fld T.at_lists (v_var 0))) (v_one (v_call F_is_small G_is_small hg (hr.mono (by decide)) hp (a_cons (v_ix hr (v_var 1) v_int) a_nil))))))))), fun ds Xn Q' h => ?_⟩
  · obtain ⟨os, t, rfl, _⟩ := h
    rfl
  · obtain ⟨os, t, rfl, ht, hq⟩ := h
    have hS : S ∈ [S] := by simp
    clear hg hr hp T F
    walk_at "w"
    cases t with
    | num k =>
      have ht : k ≤ 1000 := ht
      walk_at "h"
      walk_at "u"
      exact ⟨_, rfl, eqQ hq (by rw [decide_eq_true (by omega)])⟩
    | len =>
      walk_at "h"
      walk_at "u"
      walk_at "h"
      walk_at "u"
      walk_at "h"
      walk_at "u"
      exact ⟨_, rfl, eqQ hq rfl⟩
    | n =>
      walk_at "h"
      walk_at "u"
      walk_at "h"
      walk_at "u"
      exact ⟨_, rfl, eqQ hq rfl⟩
    | x =>
      walk_at "h"
      walk_at "u"
      walk_at "h"
      walk_at "u"
      exact ⟨_, rfl, eqQ hq rfl⟩
    | y =>
      walk_at "h"
      walk_at "u"
      walk_at "h"
      walk_at "u"
      exact ⟨_, rfl, eqQ hq rfl⟩
theorem ok_term_fits {f : Addr} {fd : FuncData} (T : Txu K mg [C] [S] aL aC aR aH) (F : Fun K "term_fits" "term_fits" s_term_fits f fd)
    {f1 : Addr} {d1 : FuncData} (F_shaped : FnG P w K mg base 1 f1 d1 ["value", "word", "many"] (spV K (wfShaped))) (G_shaped : Glob K mg "shaped" f1 d1 ["value", "word", "many"])
    {f2 : Addr} {d2 : FuncData} (F_plain_fits : FnG P w K mg base 3 f2 d2 ["scope", "term"] (spV K (wfPlain S))) (G_plain_fits : Glob K mg "plain_fits" f2 d2 ["scope", "term"])
    {f3 : Addr} {d3 : FuncData} (F_list_fits : FnG P w K mg base 3 f3 d3 ["scope", "told"] (spV K (fun _ _ _ _ => False))) (G_list_fits : Glob K mg "list_fits" f3 d3 ["scope", "told"])
    {f4 : Addr} {d4 : FuncData} (F_is_small : FnG P w K mg base 1 f4 d4 ["value"] (spV K (wfSmall))) (G_is_small : Glob K mg "is_small" f4 d4 ["value"]) : FnG P w K mg base 4 f fd ["scope", "term"] (spV K (wfPlain S )) := by
  refine def_ok F sc_term_fits (fun R ds Xn Q' h => ?_) fun R cdv A outer s H E hg hr hp => ⟨_, _, (b_cons (s_if (t_not (t_tru (v_call F_shaped G_shaped hg (hr.mono (by decide)) hp (a_cons (v_var 1) (a_cons v_str (a_cons v_int a_nil))))))
  (b_one (s_ret (v_call F_plain_fits G_plain_fits hg (hr.mono (by decide)) hp (a_cons (v_var 0) (a_cons (v_var 1) a_nil)))))
  b_nil)
  (b_one (s_ret (v_and (v_call F_list_fits G_list_fits hg (hr.mono (by decide)) hp (a_cons (v_var 0) (a_cons (v_ix hr (v_var 1) v_int) a_nil))) (v_and (v_call F_plain_fits G_plain_fits hg (hr.mono (by decide)) hp (a_cons (v_var 0) (a_cons (v_ix hr (v_var 1) v_int) a_nil))) (v_one (v_call F_is_small G_is_small hg (hr.mono (by decide)) hp (a_cons (v_ix hr (v_var 1) v_int) a_nil)))))))), fun ds Xn Q' h => ?_⟩
  · obtain ⟨os, t, rfl, _⟩ := h
    rfl
  · obtain ⟨os, t, rfl, ht, hq⟩ := h
    clear hg hr hp T F
    walk_at "w"
    cases t <;> (walk_at "h"; walk_at "u"; exact ⟨_, _, rfl, ht, hq⟩)
theorem ok_range_fits {f : Addr} {fd : FuncData} (T : Txu K mg [C] [S] aL aC aR aH) (F : Fun K "range_fits" "range_fits" s_range_fits f fd)
    {f1 : Addr} {d1 : FuncData} (F_plain_fits : FnG P w K mg base 3 f1 d1 ["scope", "term"] (spV K (wfPlain S))) (G_plain_fits : Glob K mg "plain_fits" f1 d1 ["scope", "term"]) : FnG P w K mg base 4 f fd ["scope", "lo", "hi"] (spV K (wfRange S )) := by
  refine def_ok F sc_range_fits (fun R ds Xn Q' h => ?_) fun R cdv A outer s H E hg hr hp => ⟨_, _, (b_one (s_ret (v_and (v_call F_plain_fits G_plain_fits hg (hr.mono (by decide)) hp (a_cons (v_var 0) (a_cons (v_var 1) a_nil))) (v_one (v_call F_plain_fits G_plain_fits hg (hr.mono (by decide)) hp (a_cons (v_var 0) (a_cons (v_var 2) a_nil))))))), fun ds Xn Q' h => ?_⟩
  · obtain ⟨os, t, u, rfl, _⟩ := h
    rfl
  · obtain ⟨os, t, u, rfl, ht, hu, hq⟩ := h
    clear hg hr hp T F
    walk_at "u"
    refine ⟨_, _, rfl, ht, ?_⟩
    walk_at "u"
    exact ⟨_, _, rfl, hu, hq⟩
theorem ok_falls_fits {f : Addr} {fd : FuncData} (T : Txu K mg [C] [S] aL aC aR aH) (F : Fun K "falls_fits" "falls_fits" s_falls_fits f fd)
    {f1 : Addr} {d1 : FuncData} (F_range_fits : FnG P w K mg base 4 f1 d1 ["scope", "lo", "hi"] (spV K (wfRange S))) (G_range_fits : Glob K mg "range_fits" f1 d1 ["scope", "lo", "hi"]) : FnG P w K mg base 5 f fd ["scope", "falls"] (spV K (wfFalls S )) := by
  refine def_ok F sc_falls_fits (fun R ds Xn Q' h => ?_) fun R cdv A outer s H E hg hr hp => ⟨_, _, (b_one (s_ret (v_and (v_cmp c_isT (v_t1 call_type1 unw_typ T.n_type (by decide +kernel) (v_var 1)) (v_bltn (n := "tuple") T.n_tuple (by decide +kernel))) (v_and (v_cmp (c_eq hr) (v_b1 cr_lenA unw_len T.n_len PySem.boot_len (v_var 1)) v_int) (v_one (v_call F_range_fits G_range_fits hg (hr.mono (by decide)) hp (a_cons (v_var 0) (a_cons (v_ix hr (v_var 1) v_int) (a_cons (v_ix hr (v_var 1) v_int) a_nil))))))))), fun ds Xn Q' h => ?_⟩
  · obtain ⟨os, t, u, rfl, _⟩ := h
    rfl
  · obtain ⟨os, t, u, rfl, ht, hu, hq⟩ := h
    clear hg hr hp T F
    walk_at "u"
    exact ⟨_, _, _, rfl, ht, hu, hq⟩
theorem ok_comparison_fits {f : Addr} {fd : FuncData} (T : Txu K mg [C] [S] aL aC aR aH) (F : Fun K "comparison_fits" "comparison_fits" s_comparison_fits f fd)
    {f1 : Addr} {d1 : FuncData} (F_shaped : FnG P w K mg base 1 f1 d1 ["value", "word", "many"] (spV K (wfShaped))) (G_shaped : Glob K mg "shaped" f1 d1 ["value", "word", "many"])
    {f2 : Addr} {d2 : FuncData} (F_term_fits : FnG P w K mg base 4 f2 d2 ["scope", "term"] (spV K (wfPlain S))) (G_term_fits : Glob K mg "term_fits" f2 d2 ["scope", "term"]) : FnG P w K mg base 5 f fd ["scope", "value"] (spV K (wfCmp S )) := by
  refine def_ok F sc_comparison_fits (fun R ds Xn Q' h => ?_) fun R cdv A outer s H E hg hr hp => ⟨_, _, (b_cons (s_if (t_bool (w_or (t_not (t_tru (v_call F_shaped G_shaped hg (hr.mono (by decide)) hp (a_cons (v_var 1) (a_cons v_str (a_cons v_int a_nil)))))) (w_or1 (t_cmp (c_notIn hr) (v_ix hr (v_var 1) v_int) (v_glob (v := V.ref _) T.g_COMPARING rfl T.d_COMPARING)))))
  (b_one (s_ret v_bl))
  b_nil)
  (b_one (s_ret (v_and (v_call F_term_fits G_term_fits hg (hr.mono (by decide)) hp (a_cons (v_var 0) (a_cons (v_ix hr (v_var 1) v_int) a_nil))) (v_one (v_call F_term_fits G_term_fits hg (hr.mono (by decide)) hp (a_cons (v_var 0) (a_cons (v_ix hr (v_var 1) v_int) a_nil)))))))), fun ds Xn Q' h => ?_⟩
  · obtain ⟨os, t, rfl, _⟩ := h
    rfl
  · obtain ⟨os, t, rfl, ht, hq⟩ := h
    clear hg hr hp T F
    walk_at "w"
    walk_at "h"
    walk_at "u"
    refine ⟨_, .n, rfl, trivial, ?_⟩
    walk_at "u"
    exact ⟨_, _, rfl, ht, hq⟩
theorem ok_promises_fit {f : Addr} {fd : FuncData} (T : Txu K mg [C] [S] aL aC aR aH) (F : Fun K "promises_fit" "promises_fit" s_promises_fit f fd)
    {f1 : Addr} {d1 : FuncData} (F_promise_fits : FnG P w K mg base 5 f1 d1 ["scope", "promise"] (spV K (fun _ _ _ _ => False))) (G_promise_fits : Glob K mg "promise_fits" f1 d1 ["scope", "promise"]) : FnG P w K mg base 6 f fd ["scope", "promises"] (spV K (wfNoPr )) := by
  refine def_ok F sc_promises_fit (fun R ds Xn Q' h => ?_) fun R cdv A outer s H E hg hr hp => ⟨_, _, (b_one (s_ret (v_b1 (cr_all rfl) unw_all T.n_all (by decide +kernel) (v_lc rfl sc_promises_fit.nd (i_seq (v_var 1)) (own := [("promise", 2)]) rfl (fun _ _ _ _ _ => (g_name 2 sc_promises_fit.nd)) (fun _ _ _ _ _ => ts_nil) (fun _ _ _ _ _ => (v_call F_promise_fits G_promise_fits hg (hr.mono (by decide)) passN (a_cons (v_var 0) (a_cons (v_var 2) a_nil)))))))), fun ds Xn Q' h => ?_⟩
  · obtain ⟨sc, rfl, _⟩ := h
    rfl
  · obtain ⟨sc, rfl, hq⟩ := h
    clear hg hr hp T F
    walk_at "u"
    exact hq
end
end K54

set_option Elab.async false
set_option maxRecDepth 100000
set_option linter.all false
set_option maxHeartbeats 4000000
namespace K54
open PySem L2 VH K50
local macro_rules | `(tactic| walk_at "w") => `(tactic| conv => whnf)
local macro_rules | `(tactic| walk_at "s") => `(tactic| first | assumption | decide | omega | rfl | exact (show (0 : Int) < _ from by decide) | exact ⟨by decide, by decide⟩ | exact nats_flat | exact Or.inl (Or.inl ⟨by decide, by decide⟩) | exact Or.inl (Or.inr ⟨by decide, by decide⟩) | exact Nat.le_of_ble_eq_true rfl | exact line_le (by simp; omega) | exact line_lt (by simp; omega) | exact line_lt (by omega) | exact line_le (by omega))
local macro_rules | `(tactic| walk_at "v") => `(tactic| first
  | (refine And.intro (by walk_at "s") ?_)
  | (refine gOpt_in (by assumption) ?_)
  | (refine dec_yes (dec_t (by first | assumption | omega)) ?_)
  | (refine dec_no (dec_f (by first | assumption | omega)) ?_)
  | (refine dec_yes (dec_nt (by first | assumption | omega)) ?_)
  | (refine dec_no (dec_nf (by first | assumption | omega)) ?_))
local macro_rules | `(tactic| walk_at "u") => `(tactic| (conv => whnf); repeat ((walk_at "v"); (conv => whnf)))

--opts {"prop": {"number_names":"Unit","list_names":"Unit"}}
abbrev s_Unit_number_names : Stmt := inClass (topS 47) 1
theorem sc_Unit_number_names : FnScope ["self", "name", "is_list"] ["self"] (defScope s_Unit_number_names) := ⟨rfl, rfl, rfl, by decide +kernel, rfl, by decide +kernel, by decide +kernel⟩
abbrev s_Unit_list_names : Stmt := inClass (topS 47) 2
theorem sc_Unit_list_names : FnScope ["self", "name", "is_list"] ["self"] (defScope s_Unit_list_names) := ⟨rfl, rfl, rfl, by decide +kernel, rfl, by decide +kernel, by decide +kernel⟩
abbrev s_unlike : Stmt := topS 54
theorem sc_unlike : FnScope ["names"] ["names"] (defScope s_unlike) := ⟨rfl, rfl, rfl, by decide +kernel, rfl, by decide +kernel, by decide +kernel⟩
abbrev s_parameters_fit : Stmt := topS 55
theorem sc_parameters_fit : FnScope ["parameters", "parameter", "name", "of_list", "names", "lists"] ["parameters"] (defScope s_parameters_fit) := ⟨rfl, rfl, rfl, by decide +kernel, rfl, by decide +kernel, by decide +kernel⟩
abbrev s_head_fits : Stmt := topS 57
theorem sc_head_fits : FnScope ["head", "lists", "name", "ahead", "behind"] ["head"] (defScope s_head_fits) := ⟨rfl, rfl, rfl, by decide +kernel, rfl, by decide +kernel, by decide +kernel⟩
abbrev s_uses_fit : Stmt := topS 58
theorem sc_uses_fit : FnScope ["unit", "head"] ["unit"] (defScope s_uses_fit) := ⟨rfl, rfl, rfl, by decide +kernel, rfl, by decide +kernel, by decide +kernel⟩
abbrev s_front_fits : Stmt := topS 59
theorem sc_front_fits : FnScope ["unit", "name"] ["unit"] (defScope s_front_fits) := ⟨rfl, rfl, rfl, by decide +kernel, rfl, by decide +kernel, by decide +kernel⟩
theorem strsD_map : ∀ {xs : List Str}, strsD (xs.map D.str) = some xs
  | [] => rfl
  | x :: xs => by
    show (strsD (xs.map D.str)).map (x :: ·) = _
    rw [strsD_map]
    rfl
theorem nm_f : Nm "f" := .inl rfl
theorem nm_n : Nm "n" := .inr (.inl rfl)
theorem nm_a : Nm "a" := .inr (.inr (.inl rfl))
theorem nm_x : Nm "x" := .inr (.inr (.inr (.inl rfl)))
theorem nm_y : Nm "y" := .inr (.inr (.inr (.inr rfl)))
def wfUnlike : WF := fun _ ds _ Q => ∃ xs : List Str, ds = [.lst (xs.map D.str)] ∧ xs.Nodup ∧ xs.length ≤ 4000 ∧ Q (.sh (.bl true))
def wfNumbers (C : Addr) : WF := fun _ ds _ Q => ∃ rows, ds = [uD C rows] ∧ Q (.nw [.str "n"])
def wfLists (C : Addr) : WF := fun _ ds _ Q => ∃ rows, ds = [uD C rows] ∧ Q (.nw [.str "a"])
def wfParams : WF := fun _ ds _ Q => ds = [.tup [.tup [.str "n", .bl false], .tup [.str "a", .bl true]]] ∧ Q (.sh (.bl true))
def wfHeadFits (C : Addr) : WF := fun _ ds _ Q => ∃ rows, ds = [uD C rows] ∧ Q (.sh (.bl true))
def wfFront (C : Addr) : WF := fun _ ds _ Q => ∃ rows, ds = [uD C rows] ∧ 1 ≤ rows.length ∧ rows.length ≤ 240 ∧ Q (.sh (.bl true))
section
variable {P : Program} {w : World} {K : PySem.W.Frag} {mg : Str → Option Value} {base : Heap} {C S : Addr} {aL aC aR aH : Addr}
theorem ok_Unit_number_names {f : Addr} {fd : FuncData} (T : Txu K mg [C] [S] aL aC aR aH) (F : Fun K "number_names" "Unit.number_names" s_Unit_number_names f fd) : FnG P w K mg base 1 f fd ["self"] (spV K (wfNumbers C )) := by
  refine def_ok F sc_Unit_number_names (fun R ds Xn Q' h => ?_) fun R cdv A outer s H E hg hr hp => ⟨_, _, (b_one (s_ret (v_lc rfl sc_Unit_number_names.nd (i_seq (v_fld T.at_parameters (v_var 0))) (own := [("name", 1), ("is_list", 2)]) rfl (fun _ _ _ _ _ => (g_tup rfl (gs_cons 1 sc_Unit_number_names.nd (gs_cons 2 sc_Unit_number_names.nd gs_nil)))) (fun _ _ _ _ _ => (ts_one (t_not (t_tru (v_var 2))))) (fun _ _ _ _ _ => (v_var 1))))), fun ds Xn Q' h => ?_⟩
  · obtain ⟨rows, rfl, _⟩ := h
    rfl
  · obtain ⟨rows, rfl, hq⟩ := h
    have hC : C ∈ [C] := by simp
    clear hg hr hp T F
    walk_at "u"
    exact hq
theorem ok_Unit_list_names {f : Addr} {fd : FuncData} (T : Txu K mg [C] [S] aL aC aR aH) (F : Fun K "list_names" "Unit.list_names" s_Unit_list_names f fd) : FnG P w K mg base 1 f fd ["self"] (spV K (wfLists C )) := by
  refine def_ok F sc_Unit_list_names (fun R ds Xn Q' h => ?_) fun R cdv A outer s H E hg hr hp => ⟨_, _, (b_one (s_ret (v_lc rfl sc_Unit_list_names.nd (i_seq (v_fld T.at_parameters (v_var 0))) (own := [("name", 1), ("is_list", 2)]) rfl (fun _ _ _ _ _ => (g_tup rfl (gs_cons 1 sc_Unit_list_names.nd (gs_cons 2 sc_Unit_list_names.nd gs_nil)))) (fun _ _ _ _ _ => (ts_one (t_tru (v_var 2)))) (fun _ _ _ _ _ => (v_var 1))))), fun ds Xn Q' h => ?_⟩
  · obtain ⟨rows, rfl, _⟩ := h
    rfl
  · obtain ⟨rows, rfl, hq⟩ := h
    have hC : C ∈ [C] := by simp
    clear hg hr hp T F
    walk_at "u"
    exact hq
theorem ok_unlike {f : Addr} {fd : FuncData} (T : Txu K mg [C] [S] aL aC aR aH) (F : Fun K "unlike" "unlike" s_unlike f fd) : FnG P w K mg base 1 f fd ["names"] (spV K (wfUnlike )) := by
  refine def_ok F sc_unlike (fun R ds Xn Q' h => ?_) fun R cdv A outer s H E hg hr hp => ⟨_, _, (b_one (s_ret (v_cmp (c_eq hr) (v_lenT rfl T.n_len T.n_set (v_var 0)) (v_b1 cr_lenA unw_len T.n_len PySem.boot_len (v_var 0))))), fun ds Xn Q' h => ?_⟩
  · obtain ⟨xs, rfl, _⟩ := h
    rfl
  · obtain ⟨xs, rfl, hd, hl, hq⟩ := h
    clear hg hr hp T F
    have sm := strsD_map (xs := xs)
    walk_at "u"
    exact eqQ hq (by rw [VHS.dif_nodup hd _ (Nat.le_refl _)]; simp)
theorem ok_parameters_fit {f : Addr} {fd : FuncData} (T : Txu K mg [C] [S] aL aC aR aH) (F : Fun K "parameters_fit" "parameters_fit" s_parameters_fit f fd)
    {f1 : Addr} {d1 : FuncData} (F_is_word : FnG P w K mg base 3 f1 d1 ["value"] (spV K (wfNm))) (G_is_word : Glob K mg "is_word" f1 d1 ["value"])
    {f2 : Addr} {d2 : FuncData} (F_unlike : FnG P w K mg base 1 f2 d2 ["names"] (spV K (wfUnlike))) (G_unlike : Glob K mg "unlike" f2 d2 ["names"]) : FnG P w K mg base 4 f fd ["parameters"] (spV K (wfParams )) := by
  refine def_ok F sc_parameters_fit (fun R ds Xn Q' h => ?_) fun R cdv A outer s H E hg hr hp => ⟨_, _, (b_cons (s_for (passes_of rfl) rfl (i_seq (v_var 0)) (g_name 1 sc_parameters_fit.nd)
  (b_cons (s_if (t_bool (w_or (t_cmp c_isNotT (v_t1 call_type1 unw_typ T.n_type (by decide +kernel) (v_var 1)) (v_bltn (n := "tuple") T.n_tuple (by decide +kernel))) (w_or1 (t_cmp (c_ne hr) (v_b1 cr_lenA unw_len T.n_len PySem.boot_len (v_var 1)) v_int))))
  (b_one (s_ret v_bl))
  b_nil)
  (b_one (s_if (t_bool (w_or (t_not (t_tru (v_call F_is_word G_is_word hg (hr.mono (by decide)) hp (a_cons (v_ix hr (v_var 1) v_int) a_nil)))) (w_or1 (t_cmp c_isNotT (v_t1 call_type1 unw_typ T.n_type (by decide +kernel) (v_ix hr (v_var 1) v_int)) (v_bltn (n := "bool") T.n_bool (by decide +kernel))))))
  (b_one (s_ret v_bl))
  b_nil))))
  (b_cons (s_setLc 4 rfl sc_parameters_fit.nd (i_seq (v_var 0)) (own := [("name", 2), ("of_list", 3)]) rfl (fun _ _ _ _ _ => (g_tup rfl (gs_cons 2 sc_parameters_fit.nd (gs_cons 3 sc_parameters_fit.nd gs_nil)))) (fun _ _ _ _ _ => ts_nil) (fun _ _ _ _ _ => (v_var 2)) (sw_true rfl rfl rfl (by decide +kernel)))
  (b_cons (s_setLc 5 rfl sc_parameters_fit.nd (i_seq (v_var 0)) (own := [("name", 2), ("of_list", 3)]) rfl (fun _ _ _ _ _ => (g_tup rfl (gs_cons 2 sc_parameters_fit.nd (gs_cons 3 sc_parameters_fit.nd gs_nil)))) (fun _ _ _ _ _ => (ts_one (t_tru (v_var 3)))) (fun _ _ _ _ _ => (v_var 2)) (sw_true rfl rfl rfl (by decide +kernel)))
  (b_frz 4 (b_one (s_ret (v_and (v_call F_unlike G_unlike hg (hr.mono (by decide)) hp (a_cons (v_var 4) a_nil)) (v_and (v_cmp c_le (v_b1 cr_lenA unw_len T.n_len PySem.boot_len (v_var 5)) (v_gintE T.g_MOST_OF_A_KIND)) (v_one (v_cmp c_le (v_sub (v_b1 cr_lenA unw_len T.n_len PySem.boot_len (v_var 4)) (v_b1 cr_lenA unw_len T.n_len PySem.boot_len (v_var 5))) (v_gintE T.g_MOST_OF_A_KIND))))))))))), fun ds Xn Q' h => ?_⟩
  · obtain ⟨rfl, _⟩ := h
    rfl
  · obtain ⟨rfl, hq⟩ := h
    clear hg hr hp T F
    walk_at "u"
    refine ⟨_, rfl, nm_n, ?_⟩
    walk_at "u"
    refine ⟨_, rfl, nm_a, ?_⟩
    walk_at "u"
    refine ⟨["n", "a"], rfl, by decide, by decide, ?_⟩
    walk_at "u"
    exact hq
theorem ok_head_fits {f : Addr} {fd : FuncData} (T : Txu K mg [C] [S] aL aC aR aH) (F : Fun K "head_fits" "head_fits" s_head_fits f fd)
    {f1 : Addr} {d1 : FuncData} (F_is_word : FnG P w K mg base 3 f1 d1 ["value"] (spV K (wfNm))) (G_is_word : Glob K mg "is_word" f1 d1 ["value"])
    {f2 : Addr} {d2 : FuncData} (F_parameters_fit : FnG P w K mg base 4 f2 d2 ["parameters"] (spV K (wfParams))) (G_parameters_fit : Glob K mg "parameters_fit" f2 d2 ["parameters"])
    {f3 : Addr} {d3 : FuncData} (F_Unit_list_names : FnG P w K mg base 1 f3 d3 ["self"] (spV K (wfLists C))) (P_Unit_list_names : PropG K C "list_names" f3 d3 ["self"])
    {f4 : Addr} {d4 : FuncData} (F_Unit_number_names : FnG P w K mg base 1 f4 d4 ["self"] (spV K (wfNumbers C))) (P_Unit_number_names : PropG K C "number_names" f4 d4 ["self"])
    {f5 : Addr} {d5 : FuncData} (FI_Scope : FnG P w K mg base 1 f5 d5 ["self", "numbers", "lists", "olds"] (spI K S wiScope)) (M_Scope : MakeG K mg "Scope" S f5 d5 ["self", "numbers", "lists", "olds"])
    {f6 : Addr} {d6 : FuncData} (F_promises_fit : FnG P w K mg base 6 f6 d6 ["scope", "promises"] (spV K (wfNoPr))) (G_promises_fit : Glob K mg "promises_fit" f6 d6 ["scope", "promises"])
    {f7 : Addr} {d7 : FuncData} (F_falls_fits : FnG P w K mg base 5 f7 d7 ["scope", "falls"] (spV K (wfFalls S))) (G_falls_fits : Glob K mg "falls_fits" f7 d7 ["scope", "falls"]) : FnG P w K mg base 7 f fd ["head"] (spV K (wfHeadFits C )) := by
  refine def_ok F sc_head_fits (fun R ds Xn Q' h => ?_) fun R cdv A outer s H E hg hr hp => ⟨_, _, (b_cons (s_if (t_bool (w_or (t_not (t_tru (v_call F_is_word G_is_word hg (hr.mono (by decide)) hp (a_cons (v_fld T.at_name (v_var 0)) a_nil)))) (w_or1 (t_not (t_tru (v_call F_parameters_fit G_parameters_fit hg (hr.mono (by decide)) hp (a_cons (v_fld T.at_parameters (v_var 0)) a_nil)))))))
  (b_one (s_ret v_bl))
  b_nil)
  (b_cons (s_if (t_bool (w_or (t_cmp c_gt (v_b1 cr_lenA unw_len T.n_len PySem.boot_len (v_fld T.at_needs (v_var 0))) (v_gintE T.g_MOST_TOLD)) (w_or1 (t_cmp c_gt (v_b1 cr_lenA unw_len T.n_len PySem.boot_len (v_fld T.at_gives (v_var 0))) (v_gintE T.g_MOST_TOLD)))))
  (b_one (s_ret v_bl))
  b_nil)
  (b_cons (s_set 1 sc_head_fits.nd (v_prop P_Unit_list_names F_Unit_list_names hg (hr.mono (by decide)) (v_var 0)))
  (b_frz 1 (b_cons (s_if (t_cmp (c_ne hr) (v_t1 call_list_of unw_list T.n_list (by decide +kernel) (v_fld T.at_changes (v_var 0))) (v_lc rfl sc_head_fits.nd (i_seq (v_var 1)) (own := [("name", 2)]) rfl (fun _ _ _ _ _ => (g_name 2 sc_head_fits.nd)) (fun _ _ _ _ _ => (ts_one (t_cmp (c_in hr) (v_var 2) (v_fld T.at_changes (v_var 0))))) (fun _ _ _ _ _ => (v_var 2))))
  (b_one (s_ret v_bl))
  b_nil)
  (b_frz 1 (b_cons (s_set 3 sc_head_fits.nd (v_make FI_Scope M_Scope hg (hr.mono (by decide)) hp (a_cons (v_prop P_Unit_number_names F_Unit_number_names hg (hr.mono (by decide)) (v_var 0)) (a_cons (v_var 1) (a_cons (v_lst a_nil) a_nil)))))
  (b_frz 1 (b_cons (s_set 4 sc_head_fits.nd (v_make FI_Scope M_Scope hg (hr.mono (by decide)) hp (a_cons (v_add (v_prop P_Unit_number_names F_Unit_number_names hg (hr.mono (by decide)) (v_var 0)) (v_lst (a_cons v_str a_nil))) (a_cons (v_var 1) (a_cons (v_var 1) a_nil)))))
  (b_cons (s_if (t_bool (w_or (t_not (t_tru (v_call F_promises_fit G_promises_fit hg (hr.mono (by decide)) hp (a_cons (v_var 3) (a_cons (v_fld T.at_needs (v_var 0)) a_nil))))) (w_or1 (t_not (t_tru (v_call F_promises_fit G_promises_fit hg (hr.mono (by decide)) hp (a_cons (v_var 4) (a_cons (v_fld T.at_gives (v_var 0)) a_nil))))))))
  (b_one (s_ret v_bl))
  b_nil)
  (b_one (s_ret (v_or (v_cmp c_is (v_fld T.at_falls (v_var 0)) v_non) (v_one (v_call F_falls_fits G_falls_fits hg (hr.mono (by decide)) hp (a_cons (v_var 3) (a_cons (v_fld T.at_falls (v_var 0)) a_nil))))))))))))))))), fun ds Xn Q' h => ?_⟩
  · obtain ⟨rows, rfl, _⟩ := h
    rfl
  · obtain ⟨rows, rfl, hq⟩ := h
    have hC : C ∈ [C] := by simp
    clear hg hr hp T F
    walk_at "u"
    refine ⟨_, rfl, nm_f, ?_⟩
    walk_at "u"
    refine ⟨rows, rfl, ?_⟩
    walk_at "u"
    refine ⟨_, _, rfl, rfl, rfl, rfl, ?_⟩
    walk_at "u"
    refine ⟨rows, rfl, ?_⟩
    walk_at "u"
    refine ⟨_, _, _, rfl, ?_⟩
    walk_at "u"
    refine ⟨rows, rfl, ?_⟩
    walk_at "u"
    refine ⟨_, _, _, rfl, ?_⟩
    walk_at "u"
    refine ⟨_, rfl, ?_⟩
    walk_at "u"
    refine ⟨_, rfl, ?_⟩
    walk_at "u"
    exact hq
theorem ok_uses_fit {f : Addr} {fd : FuncData} (T : Txu K mg [C] [S] aL aC aR aH) (F : Fun K "uses_fit" "uses_fit" s_uses_fit f fd)
    {f1 : Addr} {d1 : FuncData} (F_head_fits : FnG P w K mg base 7 f1 d1 ["head"] (spV K (wfHeadFits C))) (G_head_fits : Glob K mg "head_fits" f1 d1 ["head"])
    {f2 : Addr} {d2 : FuncData} (F_unlike : FnG P w K mg base 1 f2 d2 ["names"] (spV K (wfUnlike))) (G_unlike : Glob K mg "unlike" f2 d2 ["names"]) : FnG P w K mg base 8 f fd ["unit"] (spV K (wfHeadFits C )) := by
  refine def_ok F sc_uses_fit (fun R ds Xn Q' h => ?_) fun R cdv A outer s H E hg hr hp => ⟨_, _, (b_cons (s_if (t_not (t_tru (v_b1 (cr_all rfl) unw_all T.n_all (by decide +kernel) (v_lc rfl sc_uses_fit.nd (i_seq (v_fld T.at_uses (v_var 0))) (own := [("head", 1)]) rfl (fun _ _ _ _ _ => (g_name 1 sc_uses_fit.nd)) (fun _ _ _ _ _ => ts_nil) (fun _ _ _ _ _ => (v_and (v_b2 call_isi opw_isi0 T.n_isinstance (by decide +kernel) (v_var 1) (v_glob (v := V.ref _) T.g_Head rfl (fun _ => .ref _))) (v_one (v_call F_head_fits G_head_fits hg (hr.mono (by decide)) passN (a_cons (v_var 1) a_nil)))))))))
  (b_one (s_ret v_bl))
  b_nil)
  (b_one (s_ret (v_call F_unlike G_unlike hg (hr.mono (by decide)) hp (a_cons (v_add (v_lst (a_cons (v_fld T.at_name (v_var 0)) a_nil)) (v_lc rfl sc_uses_fit.nd (i_seq (v_fld T.at_uses (v_var 0))) (own := [("head", 1)]) rfl (fun _ _ _ _ _ => (g_name 1 sc_uses_fit.nd)) (fun _ _ _ _ _ => ts_nil) (fun _ _ _ _ _ => (v_fld T.at_name (v_var 1))))) a_nil))))), fun ds Xn Q' h => ?_⟩
  · obtain ⟨rows, rfl, _⟩ := h
    rfl
  · obtain ⟨rows, rfl, hq⟩ := h
    have hC : C ∈ [C] := by simp
    clear hg hr hp T F
    walk_at "u"
    refine ⟨["f"], rfl, by decide, by decide, ?_⟩
    walk_at "u"
    exact hq
theorem ok_front_fits {f : Addr} {fd : FuncData} (T : Txu K mg [C] [S] aL aC aR aH) (F : Fun K "front_fits" "front_fits" s_front_fits f fd)
    {f1 : Addr} {d1 : FuncData} (F_head_fits : FnG P w K mg base 7 f1 d1 ["head"] (spV K (wfHeadFits C))) (G_head_fits : Glob K mg "head_fits" f1 d1 ["head"])
    {f2 : Addr} {d2 : FuncData} (F_uses_fit : FnG P w K mg base 8 f2 d2 ["unit"] (spV K (wfHeadFits C))) (G_uses_fit : Glob K mg "uses_fit" f2 d2 ["unit"])
    {f3 : Addr} {d3 : FuncData} (F_is_word : FnG P w K mg base 3 f3 d3 ["value"] (spV K (wfNm))) (G_is_word : Glob K mg "is_word" f3 d3 ["value"])
    {f4 : Addr} {d4 : FuncData} (F_unlike : FnG P w K mg base 1 f4 d4 ["names"] (spV K (wfUnlike))) (G_unlike : Glob K mg "unlike" f4 d4 ["names"])
    {f5 : Addr} {d5 : FuncData} (F_Unit_number_names : FnG P w K mg base 1 f5 d5 ["self"] (spV K (wfNumbers C))) (P_Unit_number_names : PropG K C "number_names" f5 d5 ["self"])
    {f6 : Addr} {d6 : FuncData} (F_Unit_list_names : FnG P w K mg base 1 f6 d6 ["self"] (spV K (wfLists C))) (P_Unit_list_names : PropG K C "list_names" f6 d6 ["self"]) : FnG P w K mg base 9 f fd ["unit"] (spV K (wfFront C )) := by
  refine def_ok F sc_front_fits (fun R ds Xn Q' h => ?_) fun R cdv A outer s H E hg hr hp => ⟨_, _, (b_cons (s_if (t_bool (w_or (t_not (t_tru (v_call F_head_fits G_head_fits hg (hr.mono (by decide)) hp (a_cons (v_var 0) a_nil)))) (w_or (t_not (t_tru (v_call F_uses_fit G_uses_fit hg (hr.mono (by decide)) hp (a_cons (v_var 0) a_nil)))) (w_or1 (t_not (t_tru (v_b1 (cr_all rfl) unw_all T.n_all (by decide +kernel) (v_lc rfl sc_front_fits.nd (i_seq (v_fld T.at_registers (v_var 0))) (own := [("name", 1)]) rfl (fun _ _ _ _ _ => (g_name 1 sc_front_fits.nd)) (fun _ _ _ _ _ => ts_nil) (fun _ _ _ _ _ => (v_call F_is_word G_is_word hg (hr.mono (by decide)) passN (a_cons (v_var 1) a_nil)))))))))))
  (b_one (s_ret v_bl))
  b_nil)
  (b_cons (s_if (t_bool (w_or (t_cmp c_gt (v_b1 cr_lenA unw_len T.n_len PySem.boot_len (v_fld T.at_registers (v_var 0))) (v_gintE T.g_MOST_REGISTERS)) (w_or1 (t_not (t_chain c_le c_le v_int (v_b1 cr_lenA unw_len T.n_len PySem.boot_len (v_fld T.at_rows (v_var 0))) (v_gintE T.g_MOST_ROWS) (by with_unfolding_all rfl))))))
  (b_one (s_ret v_bl))
  b_nil)
  (b_one (s_ret (v_call F_unlike G_unlike hg (hr.mono (by decide)) hp (a_cons (v_add (v_add (v_prop P_Unit_number_names F_Unit_number_names hg (hr.mono (by decide)) (v_var 0)) (v_prop P_Unit_list_names F_Unit_list_names hg (hr.mono (by decide)) (v_var 0))) (v_t1 call_list_of unw_list T.n_list (by decide +kernel) (v_fld T.at_registers (v_var 0)))) a_nil)))))), fun ds Xn Q' h => ?_⟩
  · obtain ⟨rows, rfl, _⟩ := h
    rfl
  · obtain ⟨rows, rfl, h1, h2, hq⟩ := h
    have hC : C ∈ [C] := by simp
    clear hg hr hp T F
    walk_at "u"
    refine ⟨rows, rfl, ?_⟩
    walk_at "u"
    refine ⟨rows, rfl, ?_⟩
    walk_at "u"
    refine ⟨_, rfl, nm_x, ?_⟩
    walk_at "u"
    refine ⟨_, rfl, nm_y, ?_⟩
    walk_at "u"
    refine ⟨rows, rfl, ?_⟩
    walk_at "u"
    refine ⟨rows, rfl, ?_⟩
    walk_at "u"
    refine ⟨["n", "a", "x", "y"], rfl, by decide, by decide, hq⟩
end
end K54

set_option Elab.async false
set_option maxRecDepth 100000
set_option linter.all false
set_option maxHeartbeats 4000000
namespace K54
open PySem L2 VH K50
local macro_rules | `(tactic| walk_at "w") => `(tactic| conv => whnf)
local macro_rules | `(tactic| walk_at "s") => `(tactic| first | assumption | decide | omega | rfl | exact (show (0 : Int) < _ from by decide) | exact ⟨by decide, by decide⟩ | exact nats_flat | exact Or.inl (Or.inl ⟨by decide, by decide⟩) | exact Or.inl (Or.inr ⟨by decide, by decide⟩) | exact Nat.le_of_ble_eq_true rfl | exact line_le (by simp; omega) | exact line_lt (by simp; omega) | exact line_lt (by omega) | exact line_le (by omega))
local macro_rules | `(tactic| walk_at "v") => `(tactic| first
  | (refine And.intro (by walk_at "s") ?_)
  | (refine gOpt_in (by assumption) ?_)
  | (refine dec_yes (dec_t (by first | assumption | omega)) ?_)
  | (refine dec_no (dec_f (by first | assumption | omega)) ?_)
  | (refine dec_yes (dec_nt (by first | assumption | omega)) ?_)
  | (refine dec_no (dec_nf (by first | assumption | omega)) ?_))
local macro_rules | `(tactic| walk_at "u") => `(tactic| (conv => whnf); repeat ((walk_at "v"); (conv => whnf)))

--opts {"prop": {"number_names":"Unit","list_names":"Unit"}}
abbrev s_target_fits : Stmt := topS 60
theorem sc_target_fits : FnScope ["unit", "target"] ["unit", "target"] (defScope s_target_fits) := ⟨rfl, rfl, rfl, by decide +kernel, rfl, by decide +kernel, by decide +kernel⟩
abbrev s_mark_fits : Stmt := topS 63
theorem sc_mark_fits : FnScope ["unit", "scope", "row", "keeping", "name"] ["unit", "scope", "row"] (defScope s_mark_fits) := ⟨rfl, rfl, rfl, by decide +kernel, rfl, by decide +kernel, by decide +kernel⟩
abbrev s_giving_fits : Stmt := topS 64
theorem sc_giving_fits : FnScope ["unit", "scope", "row"] ["unit", "scope", "row"] (defScope s_giving_fits) := ⟨rfl, rfl, rfl, by decide +kernel, rfl, by decide +kernel, by decide +kernel⟩
abbrev s_parts_fit : Stmt := topS 65
theorem sc_parts_fit : FnScope ["unit", "scope", "row"] ["unit", "scope", "row"] (defScope s_parts_fit) := ⟨rfl, rfl, rfl, by decide +kernel, rfl, by decide +kernel, by decide +kernel⟩
abbrev s_row_fits : Stmt := topS 66
theorem sc_row_fits : FnScope ["unit", "at", "row"] ["unit", "at"] (defScope s_row_fits) := ⟨rfl, rfl, rfl, by decide +kernel, rfl, by decide +kernel, by decide +kernel⟩
local macro_rules | `(tactic| walk_at "h") => `(tactic| (refine ⟨_, _, _, _, rfl, Nat.le_of_ble_eq_true rfl, ?_⟩; first | (refine ⟨true, rfl, ?_⟩) | (refine ⟨false, rfl, ?_⟩)))
/-- the rows of the law's units -/
inductive Rk | set | mark | test (l : Nat) (t : Tm) (to : Int) | jump (l : Nat) (to : Int) | retx | rety | fail
def rowD : Rk → D
  | .set => .tup [.str "set", .int 1, .str "x", tmD .n]
  | .mark => .tup [.str "mark", .int 1, .tup [], .tup [tmD (.num 0), tmD .n], .tup [], .tup []]
  | .test l t to => .tup [.str "test", .int (l : Nat), cmpD t, .int to]
  | .jump l to => .tup [.str "jump", .int (l : Nat), .int to]
  | .retx => .tup [.str "return", .int 7, tmD .x]
  | .rety => .tup [.str "return", .int 7, tmD .y]
  | .fail => .tup [.str "fail", .int 9]
def Rk.ok : Rk → Prop
  | .test l t _ => 1 ≤ l ∧ t.ok
  | .jump l _ => 1 ≤ l
  | _ => True
def Rk.last : Rk → Bool
  | .jump _ _ => true
  | .retx => true
  | .rety => true
  | .fail => true
  | _ => false
def inB (n : Nat) (to : Int) : Bool := decide (0 ≤ to) && decide (to < n)
def Rk.tgt (n : Nat) : Rk → Bool
  | .test _ _ to => inB n to
  | .jump _ to => inB n to
  | _ => true
def wfTgt (C : Addr) : WF := fun _ ds _ Q => ∃ rows, ∃ to : Int, ds = [uD C rows, .int to] ∧ Q (.sh (.bl (inB rows.length to)))
def wfMarkFits (C S : Addr) : WF := fun _ ds _ Q => ∃ rows, ds = [uD C rows, scD S [], rowD .mark] ∧ Q (.sh (.bl true))
def wfGiving (C S : Addr) : WF := fun _ ds _ Q => ∃ rows, ds = [uD C rows, scD S [], rowD .set] ∧ Q (.sh (.bl true))
def wfParts (C S : Addr) : WF := fun _ ds _ Q => ∃ rows k, ds = [uD C rows, scD S [], rowD k] ∧ k.ok ∧ Q (.sh (.bl (k.tgt rows.length)))
section
variable {P : Program} {w : World} {K : PySem.W.Frag} {mg : Str → Option Value} {base : Heap} {C S : Addr} {aL aC aR aH : Addr}
theorem ok_target_fits {f : Addr} {fd : FuncData} (T : Txu K mg [C] [S] aL aC aR aH) (F : Fun K "target_fits" "target_fits" s_target_fits f fd) : FnG P w K mg base 1 f fd ["unit", "target"] (spV K (wfTgt C )) := by
  refine def_ok F sc_target_fits (fun R ds Xn Q' h => ?_) fun R cdv A outer s H E hg hr hp => ⟨_, _, (b_one (s_ret (v_and (v_cmp c_isT (v_t1 call_type1 unw_typ T.n_type (by decide +kernel) (v_var 1)) (v_bltn (n := "int") T.n_int (by decide +kernel))) (v_one (v_chain c_le c_lt v_int (v_var 1) (v_b1 cr_lenA unw_len T.n_len PySem.boot_len (v_fld T.at_rows (v_var 0))) (by with_unfolding_all rfl)))))), fun ds Xn Q' h => ?_⟩
  · obtain ⟨rows, to, rfl, _⟩ := h
    rfl
  · obtain ⟨rows, to, rfl, hq⟩ := h
    have hC : C ∈ [C] := by simp
    clear hg hr hp T F
    walk_at "u"
    refine dec_in (fun c => ?_) fun c => ?_
    · have c := of_decide_eq_true c
      walk_at "u"
      exact eqQ hq (by simp [inB, c])
    · have c : ¬ (0 ≤ to) := fun z => c (decide_eq_true z)
      walk_at "u"
      exact eqQ hq (by simp [inB, c])
theorem ok_mark_fits {f : Addr} {fd : FuncData} (T : Txu K mg [C] [S] aL aC aR aH) (F : Fun K "mark_fits" "mark_fits" s_mark_fits f fd)
    {f1 : Addr} {d1 : FuncData} (FI_Scope : FnG P w K mg base 1 f1 d1 ["self", "numbers", "lists", "olds"] (spI K S wiScope)) (M_Scope : MakeG K mg "Scope" S f1 d1 ["self", "numbers", "lists", "olds"])
    {f2 : Addr} {d2 : FuncData} (F_promises_fit : FnG P w K mg base 6 f2 d2 ["scope", "promises"] (spV K (wfNoPr))) (G_promises_fit : Glob K mg "promises_fit" f2 d2 ["scope", "promises"])
    {f3 : Addr} {d3 : FuncData} (F_falls_fits : FnG P w K mg base 5 f3 d3 ["scope", "falls"] (spV K (wfFalls S))) (G_falls_fits : Glob K mg "falls_fits" f3 d3 ["scope", "falls"]) : FnG P w K mg base 7 f fd ["unit", "scope", "row"] (spV K (wfMarkFits C S )) := by
  refine def_ok F sc_mark_fits (fun R ds Xn Q' h => ?_) fun R cdv A outer s H E hg hr hp => ⟨_, _, (b_cons (s_if (t_bool (w_or (t_cmp c_isNotT (v_t1 call_type1 unw_typ T.n_type (by decide +kernel) (v_ix hr (v_var 2) v_int)) (v_bltn (n := "tuple") T.n_tuple (by decide +kernel))) (w_or (t_cmp c_isNotT (v_t1 call_type1 unw_typ T.n_type (by decide +kernel) (v_ix hr (v_var 2) v_int)) (v_bltn (n := "tuple") T.n_tuple (by decide +kernel))) (w_or1 (t_cmp c_isNotT (v_t1 call_type1 unw_typ T.n_type (by decide +kernel) (v_ix hr (v_var 2) v_int)) (v_bltn (n := "tuple") T.n_tuple (by decide +kernel)))))))
  (b_one (s_ret v_bl))
  b_nil)
  (b_cons (s_set 3 sc_mark_fits.nd (v_make FI_Scope M_Scope hg (hr.mono (by decide)) hp (a_cons (v_fld T.at_numbers (v_var 1)) (a_cons (v_fld T.at_lists (v_var 1)) (a_cons (v_fld T.at_lists (v_var 1)) a_nil)))))
  (b_cons (s_if (t_bool (w_or (t_not (t_tru (v_call F_promises_fit G_promises_fit hg (hr.mono (by decide)) hp (a_cons (v_var 3) (a_cons (v_ix hr (v_var 2) v_int) a_nil))))) (w_or1 (t_not (t_tru (v_call F_falls_fits G_falls_fits hg (hr.mono (by decide)) hp (a_cons (v_var 1) (a_cons (v_ix hr (v_var 2) v_int) a_nil))))))))
  (b_one (s_ret v_bl))
  b_nil)
  (b_one (s_ret (v_and (v_b1 (cr_all rfl) unw_all T.n_all (by decide +kernel) (v_lc rfl sc_mark_fits.nd (i_seq (v_ix hr (v_var 2) v_int)) (own := [("name", 4)]) rfl (fun _ _ _ _ _ => (g_name 4 sc_mark_fits.nd)) (fun _ _ _ _ _ => ts_nil) (fun _ _ _ _ _ => (v_cmp (c_in hr) (v_var 4) (v_fld T.at_registers (v_var 0)))))) (v_one (v_b1 (cr_all rfl) unw_all T.n_all (by decide +kernel) (v_lc rfl sc_mark_fits.nd (i_seq (v_ix hr (v_var 2) v_int)) (own := [("name", 4)]) rfl (fun _ _ _ _ _ => (g_name 4 sc_mark_fits.nd)) (fun _ _ _ _ _ => ts_nil) (fun _ _ _ _ _ => (v_cmp (c_in hr) (v_var 4) (v_fld T.at_lists (v_var 1))))))))))))), fun ds Xn Q' h => ?_⟩
  · obtain ⟨rows, rfl, _⟩ := h
    rfl
  · obtain ⟨rows, rfl, hq⟩ := h
    have hC : C ∈ [C] := by simp
    have hS : S ∈ [S] := by simp
    clear hg hr hp T F
    walk_at "u"
    refine ⟨_, _, _, rfl, ?_⟩
    walk_at "u"
    refine ⟨_, rfl, ?_⟩
    walk_at "u"
    refine ⟨_, .num 0, .n, rfl, Nat.zero_le _, trivial, ?_⟩
    walk_at "u"
    exact hq
theorem ok_giving_fits {f : Addr} {fd : FuncData} (T : Txu K mg [C] [S] aL aC aR aH) (F : Fun K "giving_fits" "giving_fits" s_giving_fits f fd)
    {f1 : Addr} {d1 : FuncData} (F_shaped : FnG P w K mg base 1 f1 d1 ["value", "word", "many"] (spV K (wfShaped))) (G_shaped : Glob K mg "shaped" f1 d1 ["value", "word", "many"])
    {f2 : Addr} {d2 : FuncData} (F_term_fits : FnG P w K mg base 4 f2 d2 ["scope", "term"] (spV K (wfPlain S))) (G_term_fits : Glob K mg "term_fits" f2 d2 ["scope", "term"])
    {f3 : Addr} {d3 : FuncData} (F_range_fits : FnG P w K mg base 4 f3 d3 ["scope", "lo", "hi"] (spV K (wfRange S))) (G_range_fits : Glob K mg "range_fits" f3 d3 ["scope", "lo", "hi"])
    {f4 : Addr} {d4 : FuncData} (F_call_fits : FnG P w K mg base 5 f4 d4 ["unit", "scope", "row"] (spV K (fun _ _ _ _ => False))) (G_call_fits : Glob K mg "call_fits" f4 d4 ["unit", "scope", "row"]) : FnG P w K mg base 7 f fd ["unit", "scope", "row"] (spV K (wfGiving C S )) := by
  refine def_ok F sc_giving_fits (fun R ds Xn Q' h => ?_) fun R cdv A outer s H E hg hr hp => ⟨_, _, (b_cons (s_if (t_tru (v_call F_shaped G_shaped hg (hr.mono (by decide)) hp (a_cons (v_var 2) (a_cons v_str (a_cons v_int a_nil)))))
  (b_one (s_ret (v_and (v_cmp (c_in hr) (v_ix hr (v_var 2) v_int) (v_fld T.at_registers (v_var 0))) (v_one (v_call F_term_fits G_term_fits hg (hr.mono (by decide)) hp (a_cons (v_var 1) (a_cons (v_ix hr (v_var 2) v_int) a_nil)))))))
  b_nil)
  (b_cons (s_if (t_tru (v_call F_shaped G_shaped hg (hr.mono (by decide)) hp (a_cons (v_var 2) (a_cons v_str (a_cons v_int a_nil)))))
  (b_one (s_ret (v_and (v_cmp (c_in hr) (v_ix hr (v_var 2) v_int) (v_fld T.at_registers (v_var 0))) (v_one (v_call F_range_fits G_range_fits hg (hr.mono (by decide)) hp (a_cons (v_var 1) (a_cons (v_ix hr (v_var 2) v_int) (a_cons (v_ix hr (v_var 2) v_int) a_nil))))))))
  b_nil)
  (b_one (s_ret (v_and (v_call F_shaped G_shaped hg (hr.mono (by decide)) hp (a_cons (v_var 2) (a_cons v_str (a_cons v_int a_nil)))) (v_one (v_call F_call_fits G_call_fits hg (hr.mono (by decide)) hp (a_cons (v_var 0) (a_cons (v_var 1) (a_cons (v_var 2) a_nil)))))))))), fun ds Xn Q' h => ?_⟩
  · obtain ⟨rows, rfl, _⟩ := h
    rfl
  · obtain ⟨rows, rfl, hq⟩ := h
    have hC : C ∈ [C] := by simp
    clear hg hr hp T F
    walk_at "w"
    walk_at "h"
    walk_at "u"
    exact ⟨_, .n, rfl, trivial, hq⟩
theorem ok_parts_fit {f : Addr} {fd : FuncData} (T : Txu K mg [C] [S] aL aC aR aH) (F : Fun K "parts_fit" "parts_fit" s_parts_fit f fd)
    {f1 : Addr} {d1 : FuncData} (F_shaped : FnG P w K mg base 1 f1 d1 ["value", "word", "many"] (spV K (wfShaped))) (G_shaped : Glob K mg "shaped" f1 d1 ["value", "word", "many"])
    {f2 : Addr} {d2 : FuncData} (F_plain_fits : FnG P w K mg base 3 f2 d2 ["scope", "term"] (spV K (wfPlain S))) (G_plain_fits : Glob K mg "plain_fits" f2 d2 ["scope", "term"])
    {f3 : Addr} {d3 : FuncData} (F_term_fits : FnG P w K mg base 4 f3 d3 ["scope", "term"] (spV K (wfPlain S))) (G_term_fits : Glob K mg "term_fits" f3 d3 ["scope", "term"])
    {f4 : Addr} {d4 : FuncData} (F_range_fits : FnG P w K mg base 4 f4 d4 ["scope", "lo", "hi"] (spV K (wfRange S))) (G_range_fits : Glob K mg "range_fits" f4 d4 ["scope", "lo", "hi"])
    {f5 : Addr} {d5 : FuncData} (F_comparison_fits : FnG P w K mg base 5 f5 d5 ["scope", "value"] (spV K (wfCmp S))) (G_comparison_fits : Glob K mg "comparison_fits" f5 d5 ["scope", "value"])
    {f6 : Addr} {d6 : FuncData} (F_target_fits : FnG P w K mg base 1 f6 d6 ["unit", "target"] (spV K (wfTgt C))) (G_target_fits : Glob K mg "target_fits" f6 d6 ["unit", "target"])
    {f7 : Addr} {d7 : FuncData} (F_mark_fits : FnG P w K mg base 7 f7 d7 ["unit", "scope", "row"] (spV K (wfMarkFits C S))) (G_mark_fits : Glob K mg "mark_fits" f7 d7 ["unit", "scope", "row"])
    {f8 : Addr} {d8 : FuncData} (F_giving_fits : FnG P w K mg base 7 f8 d8 ["unit", "scope", "row"] (spV K (wfGiving C S))) (G_giving_fits : Glob K mg "giving_fits" f8 d8 ["unit", "scope", "row"]) : FnG P w K mg base 8 f fd ["unit", "scope", "row"] (spV K (wfParts C S )) := by
  refine def_ok F sc_parts_fit (fun R ds Xn Q' h => ?_) fun R cdv A outer s H E hg hr hp => ⟨_, _, (b_cons (s_if (t_tru (v_call F_shaped G_shaped hg (hr.mono (by decide)) hp (a_cons (v_var 2) (a_cons v_str (a_cons v_int a_nil)))))
  (b_one (s_ret (v_and (v_cmp (c_in hr) (v_ix hr (v_var 2) v_int) (v_fld T.at_lists (v_var 1))) (v_and (v_call F_plain_fits G_plain_fits hg (hr.mono (by decide)) hp (a_cons (v_var 1) (a_cons (v_ix hr (v_var 2) v_int) a_nil))) (v_one (v_call F_term_fits G_term_fits hg (hr.mono (by decide)) hp (a_cons (v_var 1) (a_cons (v_ix hr (v_var 2) v_int) a_nil))))))))
  b_nil)
  (b_cons (s_if (t_tru (v_call F_shaped G_shaped hg (hr.mono (by decide)) hp (a_cons (v_var 2) (a_cons v_str (a_cons v_int a_nil)))))
  (b_one (s_ret (v_and (v_cmp (c_in hr) (v_ix hr (v_var 2) v_int) (v_fld T.at_lists (v_var 1))) (v_one (v_call F_range_fits G_range_fits hg (hr.mono (by decide)) hp (a_cons (v_var 1) (a_cons (v_ix hr (v_var 2) v_int) (a_cons (v_ix hr (v_var 2) v_int) a_nil))))))))
  b_nil)
  (b_cons (s_if (t_tru (v_call F_shaped G_shaped hg (hr.mono (by decide)) hp (a_cons (v_var 2) (a_cons v_str (a_cons v_int a_nil)))))
  (b_one (s_ret (v_call F_term_fits G_term_fits hg (hr.mono (by decide)) hp (a_cons (v_var 1) (a_cons (v_ix hr (v_var 2) v_int) a_nil)))))
  b_nil)
  (b_cons (s_if (t_tru (v_call F_shaped G_shaped hg (hr.mono (by decide)) hp (a_cons (v_var 2) (a_cons v_str (a_cons v_int a_nil)))))
  (b_one (s_ret (v_and (v_call F_comparison_fits G_comparison_fits hg (hr.mono (by decide)) hp (a_cons (v_var 1) (a_cons (v_ix hr (v_var 2) v_int) a_nil))) (v_one (v_call F_target_fits G_target_fits hg (hr.mono (by decide)) hp (a_cons (v_var 0) (a_cons (v_ix hr (v_var 2) v_int) a_nil)))))))
  b_nil)
  (b_cons (s_if (t_tru (v_call F_shaped G_shaped hg (hr.mono (by decide)) hp (a_cons (v_var 2) (a_cons v_str (a_cons v_int a_nil)))))
  (b_one (s_ret (v_call F_target_fits G_target_fits hg (hr.mono (by decide)) hp (a_cons (v_var 0) (a_cons (v_ix hr (v_var 2) v_int) a_nil)))))
  b_nil)
  (b_cons (s_if (t_tru (v_call F_shaped G_shaped hg (hr.mono (by decide)) hp (a_cons (v_var 2) (a_cons v_str (a_cons v_int a_nil)))))
  (b_one (s_ret (v_call F_mark_fits G_mark_fits hg (hr.mono (by decide)) hp (a_cons (v_var 0) (a_cons (v_var 1) (a_cons (v_var 2) a_nil))))))
  b_nil)
  (b_one (s_ret (v_or (v_call F_shaped G_shaped hg (hr.mono (by decide)) hp (a_cons (v_var 2) (a_cons v_str (a_cons v_int a_nil)))) (v_one (v_call F_giving_fits G_giving_fits hg (hr.mono (by decide)) hp (a_cons (v_var 0) (a_cons (v_var 1) (a_cons (v_var 2) a_nil)))))))))))))), fun ds Xn Q' h => ?_⟩
  · obtain ⟨rows, k, rfl, _⟩ := h
    rfl
  · obtain ⟨rows, k, rfl, hk, hq⟩ := h
    clear hg hr hp T F
    walk_at "w"
    cases k with
    | set =>
      repeat (walk_at "h"; walk_at "u")
      exact ⟨_, rfl, hq⟩
    | mark =>
      repeat (walk_at "h"; walk_at "u")
      exact ⟨_, rfl, hq⟩
    | test l t to =>
      repeat (walk_at "h"; walk_at "u")
      refine ⟨_, _, rfl, hk.2, ?_⟩
      walk_at "u"
      exact ⟨_, _, rfl, hq⟩
    | jump l to =>
      repeat (walk_at "h"; walk_at "u")
      exact ⟨_, _, rfl, hq⟩
    | retx =>
      repeat (walk_at "h"; walk_at "u")
      exact ⟨_, .x, rfl, trivial, hq⟩
    | rety =>
      repeat (walk_at "h"; walk_at "u")
      exact ⟨_, .y, rfl, trivial, hq⟩
    | fail =>
      repeat (walk_at "h"; walk_at "u")
      exact hq
def fitsB (n at_ : Nat) (k : Rk) : Bool := if at_ + 1 = n ∧ k.last = false then false else k.tgt n
def wfRowFits (C : Addr) : WF := fun _ ds _ Q => ∃ (ks : List Rk) (k : Rk) (at_ : Nat), ds = [uD C (ks.map rowD), .int at_] ∧ ks[at_]? = some k ∧ k.ok ∧ ks.length ≤ 240 ∧ Q (.sh (.bl (fitsB ks.length at_ k)))
theorem ok_row_fits {f : Addr} {fd : FuncData} (T : Txu K mg [C] [S] aL aC aR aH) (F : Fun K "row_fits" "row_fits" s_row_fits f fd)
    {f1 : Addr} {d1 : FuncData} (F_parts_fit : FnG P w K mg base 8 f1 d1 ["unit", "scope", "row"] (spV K (wfParts C S))) (G_parts_fit : Glob K mg "parts_fit" f1 d1 ["unit", "scope", "row"])
    {f2 : Addr} {d2 : FuncData} (FI_Scope : FnG P w K mg base 1 f2 d2 ["self", "numbers", "lists", "olds"] (spI K S wiScope)) (M_Scope : MakeG K mg "Scope" S f2 d2 ["self", "numbers", "lists", "olds"])
    {f3 : Addr} {d3 : FuncData} (F_Unit_number_names : FnG P w K mg base 1 f3 d3 ["self"] (spV K (wfNumbers C))) (P_Unit_number_names : PropG K C "number_names" f3 d3 ["self"])
    {f4 : Addr} {d4 : FuncData} (F_Unit_list_names : FnG P w K mg base 1 f4 d4 ["self"] (spV K (wfLists C))) (P_Unit_list_names : PropG K C "list_names" f4 d4 ["self"]) : FnG P w K mg base 9 f fd ["unit", "at"] (spV K (wfRowFits C )) := by
  refine def_ok F sc_row_fits (fun R ds Xn Q' h => ?_) fun R cdv A outer s H E hg hr hp => ⟨_, _, (b_cons (s_set 2 sc_row_fits.nd (v_ix hr (v_fld T.at_rows (v_var 0)) (v_var 1)))
  (b_cons (s_if (t_bool (w_or (t_cmp c_isNotT (v_t1 call_type1 unw_typ T.n_type (by decide +kernel) (v_var 2)) (v_bltn (n := "tuple") T.n_tuple (by decide +kernel))) (w_or (t_cmp c_lt (v_b1 cr_lenA unw_len T.n_len PySem.boot_len (v_var 2)) v_int) (w_or (t_cmp c_isNotT (v_t1 call_type1 unw_typ T.n_type (by decide +kernel) (v_ix hr (v_var 2) v_int)) (v_bltn (n := "int") T.n_int (by decide +kernel))) (w_or1 (t_cmp c_lt (v_ix hr (v_var 2) v_int) v_int))))))
  (b_one (s_ret v_bl))
  b_nil)
  (b_cons (s_if (t_bool (w_and (t_cmp (c_eq hr) (v_var 1) (v_sub (v_b1 cr_lenA unw_len T.n_len PySem.boot_len (v_fld T.at_rows (v_var 0))) v_int)) (w_and1 (t_cmp (c_notIn hr) (v_ix hr (v_var 2) v_int) (v_glob (v := V.ref _) T.g_LAST rfl T.d_LAST)))))
  (b_one (s_ret v_bl))
  b_nil)
  (b_one (s_ret (v_call F_parts_fit G_parts_fit hg (hr.mono (by decide)) hp (a_cons (v_var 0) (a_cons (v_make FI_Scope M_Scope hg (hr.mono (by decide)) hp (a_cons (v_add (v_prop P_Unit_number_names F_Unit_number_names hg (hr.mono (by decide)) (v_var 0)) (v_t1 call_list_of unw_list T.n_list (by decide +kernel) (v_fld T.at_registers (v_var 0)))) (a_cons (v_prop P_Unit_list_names F_Unit_list_names hg (hr.mono (by decide)) (v_var 0)) (a_cons (v_lst a_nil) a_nil)))) (a_cons (v_var 2) a_nil))))))))), fun ds Xn Q' h => ?_⟩
  · obtain ⟨ks, k, at_, rfl, _⟩ := h
    rfl
  · obtain ⟨ks, k, at_, rfl, hk, ok, hl, hq⟩ := h
    have hC : C ∈ [C] := by simp
    clear hg hr hp T F
    have hrj : ixD (ks.map rowD) (at_ : Int) = some (rowD k) := by rw [ixD_nat, List.getElem?_map, hk]; rfl
    have al := (List.getElem?_eq_some_iff.mp hk).1
    have ml : (ks.map rowD).length = ks.length := by simp
    walk_at "u"
    cases k with
    | set =>
      by_cases c : at_ + 1 = ks.length
      · walk_at "u"
        exact eqQ hq (by simp [fitsB, c, Rk.last])
      · walk_at "u"
        refine ⟨_, rfl, ?_⟩
        walk_at "u"
        refine ⟨_, rfl, ?_⟩
        walk_at "u"
        refine ⟨_, _, _, rfl, ?_⟩
        walk_at "u"
        exact ⟨_, .set, rfl, ok, eqQ hq (by simp [fitsB, c])⟩
    | mark =>
      by_cases c : at_ + 1 = ks.length
      · walk_at "u"
        exact eqQ hq (by simp [fitsB, c, Rk.last])
      · walk_at "u"
        refine ⟨_, rfl, ?_⟩
        walk_at "u"
        refine ⟨_, rfl, ?_⟩
        walk_at "u"
        refine ⟨_, _, _, rfl, ?_⟩
        walk_at "u"
        exact ⟨_, .mark, rfl, ok, eqQ hq (by simp [fitsB, c])⟩
    | test l t to =>
      have l1 : 1 ≤ l := ok.1
      by_cases c : at_ + 1 = ks.length
      · walk_at "u"
        exact eqQ hq (by simp [fitsB, c, Rk.last])
      · walk_at "u"
        refine ⟨_, rfl, ?_⟩
        walk_at "u"
        refine ⟨_, rfl, ?_⟩
        walk_at "u"
        refine ⟨_, _, _, rfl, ?_⟩
        walk_at "u"
        exact ⟨_, .test l t to, rfl, ok, eqQ hq (by simp [fitsB, c])⟩
    | jump l to =>
      have l1 : 1 ≤ l := ok
      by_cases c : at_ + 1 = ks.length
      · walk_at "u"
        refine ⟨_, rfl, ?_⟩
        walk_at "u"
        refine ⟨_, rfl, ?_⟩
        walk_at "u"
        refine ⟨_, _, _, rfl, ?_⟩
        walk_at "u"
        exact ⟨_, .jump l to, rfl, ok, eqQ hq (by simp [fitsB, Rk.last])⟩
      · walk_at "u"
        refine ⟨_, rfl, ?_⟩
        walk_at "u"
        refine ⟨_, rfl, ?_⟩
        walk_at "u"
        refine ⟨_, _, _, rfl, ?_⟩
        walk_at "u"
        exact ⟨_, .jump l to, rfl, ok, eqQ hq (by simp [fitsB, Rk.last])⟩
    | retx =>
      by_cases c : at_ + 1 = ks.length
      · walk_at "u"
        refine ⟨_, rfl, ?_⟩
        walk_at "u"
        refine ⟨_, rfl, ?_⟩
        walk_at "u"
        refine ⟨_, _, _, rfl, ?_⟩
        walk_at "u"
        exact ⟨_, .retx, rfl, ok, eqQ hq (by simp [fitsB, Rk.last])⟩
      · walk_at "u"
        refine ⟨_, rfl, ?_⟩
        walk_at "u"
        refine ⟨_, rfl, ?_⟩
        walk_at "u"
        refine ⟨_, _, _, rfl, ?_⟩
        walk_at "u"
        exact ⟨_, .retx, rfl, ok, eqQ hq (by simp [fitsB, Rk.last])⟩
    | rety =>
      by_cases c : at_ + 1 = ks.length
      · walk_at "u"
        refine ⟨_, rfl, ?_⟩
        walk_at "u"
        refine ⟨_, rfl, ?_⟩
        walk_at "u"
        refine ⟨_, _, _, rfl, ?_⟩
        walk_at "u"
        exact ⟨_, .rety, rfl, ok, eqQ hq (by simp [fitsB, Rk.last])⟩
      · walk_at "u"
        refine ⟨_, rfl, ?_⟩
        walk_at "u"
        refine ⟨_, rfl, ?_⟩
        walk_at "u"
        refine ⟨_, _, _, rfl, ?_⟩
        walk_at "u"
        exact ⟨_, .rety, rfl, ok, eqQ hq (by simp [fitsB, Rk.last])⟩
    | fail =>
      by_cases c : at_ + 1 = ks.length
      · walk_at "u"
        refine ⟨_, rfl, ?_⟩
        walk_at "u"
        refine ⟨_, rfl, ?_⟩
        walk_at "u"
        refine ⟨_, _, _, rfl, ?_⟩
        walk_at "u"
        exact ⟨_, .fail, rfl, ok, eqQ hq (by simp [fitsB, Rk.last])⟩
      · walk_at "u"
        refine ⟨_, rfl, ?_⟩
        walk_at "u"
        refine ⟨_, rfl, ?_⟩
        walk_at "u"
        refine ⟨_, _, _, rfl, ?_⟩
        walk_at "u"
        exact ⟨_, .fail, rfl, ok, eqQ hq (by simp [fitsB, Rk.last])⟩
end
end K54

set_option Elab.async false
set_option maxRecDepth 100000
set_option linter.all false
set_option maxHeartbeats 4000000
namespace K54
open PySem L2 VH K50
local macro_rules | `(tactic| walk_at "w") => `(tactic| conv => whnf)
local macro_rules | `(tactic| walk_at "s") => `(tactic| first | assumption | decide | omega | rfl | exact (show (0 : Int) < _ from by decide) | exact ⟨by decide, by decide⟩ | exact nats_flat | exact Or.inl (Or.inl ⟨by decide, by decide⟩) | exact Or.inl (Or.inr ⟨by decide, by decide⟩) | exact Nat.le_of_ble_eq_true rfl | exact line_le (by simp; omega) | exact line_lt (by simp; omega) | exact line_lt (by omega) | exact line_le (by omega))
local macro_rules | `(tactic| walk_at "v") => `(tactic| first
  | (refine And.intro (by walk_at "s") ?_)
  | (refine gOpt_in (by assumption) ?_)
  | (refine dec_yes (dec_t (by first | assumption | omega)) ?_)
  | (refine dec_no (dec_f (by first | assumption | omega)) ?_)
  | (refine dec_yes (dec_nt (by first | assumption | omega)) ?_)
  | (refine dec_no (dec_nf (by first | assumption | omega)) ?_))
local macro_rules | `(tactic| walk_at "u") => `(tactic| (conv => whnf); repeat ((walk_at "v"); (conv => whnf)))

--opts {"prop": {"number_names":"Unit","list_names":"Unit"}, "method":{"used":"Unit","head":"Unit"}, "dictargS":{("reads","sorted({name: True for name in names_read(unit.rows[at]) if name in unit.registers})")}}
abbrev s_names_of_plain : Stmt := topS 16
theorem sc_names_of_plain : FnScope ["term"] ["term"] (defScope s_names_of_plain) := ⟨rfl, rfl, rfl, by decide +kernel, rfl, by decide +kernel, by decide +kernel⟩
abbrev s_names_of_term : Stmt := topS 17
theorem sc_names_of_term : FnScope ["term"] ["term"] (defScope s_names_of_term) := ⟨rfl, rfl, rfl, by decide +kernel, rfl, by decide +kernel, by decide +kernel⟩
abbrev s_names_of_comparison : Stmt := topS 18
theorem sc_names_of_comparison : FnScope ["comparison"] ["comparison"] (defScope s_names_of_comparison) := ⟨rfl, rfl, rfl, by decide +kernel, rfl, by decide +kernel, by decide +kernel⟩
abbrev s_names_of_mark : Stmt := topS 20
theorem sc_names_of_mark : FnScope ["row", "found", "promise"] ["row"] (defScope s_names_of_mark) := ⟨rfl, rfl, rfl, by decide +kernel, rfl, by decide +kernel, by decide +kernel⟩
abbrev s_names_read : Stmt := topS 22
theorem sc_names_read : FnScope ["row", "kind"] ["row"] (defScope s_names_read) := ⟨rfl, rfl, rfl, by decide +kernel, rfl, by decide +kernel, by decide +kernel⟩
abbrev s_reads : Stmt := topS 23
theorem sc_reads : FnScope ["unit", "at", "name"] ["unit", "at"] (defScope s_reads) := ⟨rfl, rfl, rfl, by decide +kernel, rfl, by decide +kernel, by decide +kernel⟩
abbrev s_given_by : Stmt := topS 24
theorem sc_given_by : FnScope ["unit", "at", "row"] ["unit", "at"] (defScope s_given_by) := ⟨rfl, rfl, rfl, by decide +kernel, rfl, by decide +kernel, by decide +kernel⟩
abbrev s_values_by : Stmt := topS 68
theorem sc_values_by : FnScope ["unit", "at", "name"] ["unit", "at"] (defScope s_values_by) := ⟨rfl, rfl, rfl, by decide +kernel, rfl, by decide +kernel, by decide +kernel⟩
abbrev s_changed_by : Stmt := topS 67
theorem sc_changed_by : FnScope ["unit", "at", "row", "head", "parameter", "argument"] ["unit", "at"] (defScope s_changed_by) := ⟨rfl, rfl, rfl, by decide +kernel, rfl, by decide +kernel, by decide +kernel⟩
def Tm.names : Tm → List D
  | .n => [.str "n"]
  | .x => [.str "x"]
  | .y => [.str "y"]
  | _ => []
def Rk.names : Rk → List D
  | .set => [.str "n"]
  | .mark => [.str "n"]
  | .test _ t _ => .str "n" :: t.names
  | .retx => [.str "x"]
  | .rety => [.str "y"]
  | _ => []
def Rk.reads : Rk → List Str
  | .retx => ["x"]
  | .rety => ["y"]
  | _ => []
def Rk.vals : Rk → List Str
  | .set => ["x"]
  | _ => []
/-- tests read no register -/
def Rk.calm : Rk → Prop
  | .test _ t _ => t.names = []
  | _ => True
def wfNamesT : WF := fun _ ds _ Q => ∃ t, ds = [tmD t] ∧ Q (.nw t.names)
def wfNamesC : WF := fun _ ds _ Q => ∃ t, ds = [cmpD t] ∧ Q (.nw (.str "n" :: t.names))
def wfNamesM : WF := fun _ ds _ Q => ds = [rowD .mark] ∧ Q (.nw [.str "n"])
def wfNamesR : WF := fun _ ds _ Q => ∃ k, ds = [rowD k] ∧ Q (.nw k.names)
def wfReads (C : Addr) : WF := fun _ ds _ Q => ∃ (ks : List Rk) (k : Rk) (at_ : Nat), ds = [uD C (ks.map rowD), .int at_] ∧ ks[at_]? = some k ∧ k.calm ∧ Q (.nw (k.reads.map D.str))
def wfGiven (C : Addr) : WF := fun _ ds _ Q => ∃ (ks : List Rk) (k : Rk) (at_ : Nat), ds = [uD C (ks.map rowD), .int at_] ∧ ks[at_]? = some k ∧ ((k = .set → Q (.sh (.str "x"))) ∧ (k ≠ .set → Q (.sh .non)))
def wfVals (C : Addr) : WF := fun _ ds _ Q => ∃ (ks : List Rk) (k : Rk) (at_ : Nat), ds = [uD C (ks.map rowD), .int at_] ∧ ks[at_]? = some k ∧ Q (.nw (k.vals.map D.str))
def wfChanged (C : Addr) : WF := fun _ ds _ Q => ∃ (ks : List Rk) (k : Rk) (at_ : Nat), ds = [uD C (ks.map rowD), .int at_] ∧ ks[at_]? = some k ∧ Q (.nw [])
section
variable {P : Program} {w : World} {K : PySem.W.Frag} {mg : Str → Option Value} {base : Heap} {C S : Addr} {aL aC aR aH : Addr}
theorem ok_names_of_plain {f : Addr} {fd : FuncData} (T : Txu K mg [C] [S] aL aC aR aH) (F : Fun K "names_of_plain" "names_of_plain" s_names_of_plain f fd) : FnG P w K mg base 1 f fd ["term"] (spV K (wfNamesT )) := by
  refine def_ok F sc_names_of_plain (fun R ds Xn Q' h => ?_) fun R cdv A outer s H E hg hr hp => ⟨_, _, (b_one (s_ret (v_if (t_cmp (c_eq hr) (v_ix hr (v_var 0) v_int) v_str) (v_lst (a_cons (v_ix hr (v_var 0) v_int) a_nil)) (v_lst a_nil)))), fun ds Xn Q' h => ?_⟩
  · obtain ⟨t, rfl, _⟩ := h
    rfl
  · obtain ⟨t, rfl, hq⟩ := h
    clear hg hr hp T F
    cases t <;> (walk_at "u"; exact hq)
theorem ok_names_of_term {f : Addr} {fd : FuncData} (T : Txu K mg [C] [S] aL aC aR aH) (F : Fun K "names_of_term" "names_of_term" s_names_of_term f fd)
    {f1 : Addr} {d1 : FuncData} (F_names_of_plain : FnG P w K mg base 1 f1 d1 ["term"] (spV K (wfNamesT))) (G_names_of_plain : Glob K mg "names_of_plain" f1 d1 ["term"]) : FnG P w K mg base 2 f fd ["term"] (spV K (wfNamesT )) := by
  refine def_ok F sc_names_of_term (fun R ds Xn Q' h => ?_) fun R cdv A outer s H E hg hr hp => ⟨_, _, (b_one (s_ret (v_if (t_cmp (c_eq hr) (v_ix hr (v_var 0) v_int) v_str) (v_call F_names_of_plain G_names_of_plain hg (hr.mono (by decide)) hp (a_cons (v_ix hr (v_var 0) v_int) a_nil)) (v_call F_names_of_plain G_names_of_plain hg (hr.mono (by decide)) hp (a_cons (v_var 0) a_nil))))), fun ds Xn Q' h => ?_⟩
  · obtain ⟨t, rfl, _⟩ := h
    rfl
  · obtain ⟨t, rfl, hq⟩ := h
    clear hg hr hp T F
    cases t <;> (walk_at "u"; exact ⟨_, rfl, hq⟩)
theorem ok_names_of_comparison {f : Addr} {fd : FuncData} (T : Txu K mg [C] [S] aL aC aR aH) (F : Fun K "names_of_comparison" "names_of_comparison" s_names_of_comparison f fd)
    {f1 : Addr} {d1 : FuncData} (F_names_of_term : FnG P w K mg base 2 f1 d1 ["term"] (spV K (wfNamesT))) (G_names_of_term : Glob K mg "names_of_term" f1 d1 ["term"]) : FnG P w K mg base 3 f fd ["comparison"] (spV K (wfNamesC )) := by
  refine def_ok F sc_names_of_comparison (fun R ds Xn Q' h => ?_) fun R cdv A outer s H E hg hr hp => ⟨_, _, (b_one (s_ret (v_add (v_call F_names_of_term G_names_of_term hg (hr.mono (by decide)) hp (a_cons (v_ix hr (v_var 0) v_int) a_nil)) (v_call F_names_of_term G_names_of_term hg (hr.mono (by decide)) hp (a_cons (v_ix hr (v_var 0) v_int) a_nil))))), fun ds Xn Q' h => ?_⟩
  · obtain ⟨t, rfl, _⟩ := h
    rfl
  · obtain ⟨t, rfl, hq⟩ := h
    clear hg hr hp T F
    walk_at "u"
    refine ⟨.n, rfl, ?_⟩
    walk_at "u"
    refine ⟨t, rfl, ?_⟩
    cases t <;> (walk_at "u"; exact hq)
theorem ok_names_of_mark {f : Addr} {fd : FuncData} (T : Txu K mg [C] [S] aL aC aR aH) (F : Fun K "names_of_mark" "names_of_mark" s_names_of_mark f fd)
    {f1 : Addr} {d1 : FuncData} (F_names_of_plain : FnG P w K mg base 1 f1 d1 ["term"] (spV K (wfNamesT))) (G_names_of_plain : Glob K mg "names_of_plain" f1 d1 ["term"])
    {f2 : Addr} {d2 : FuncData} (F_names_of_promise : FnG P w K mg base 1 f2 d2 ["promise"] (spV K (fun _ _ _ _ => False))) (G_names_of_promise : Glob K mg "names_of_promise" f2 d2 ["promise"]) : FnG P w K mg base 2 f fd ["row"] (spV K (wfNamesM )) := by
  refine def_ok F sc_names_of_mark (fun R ds Xn Q' h => ?_) fun R cdv A outer s H E hg hr hp => ⟨_, _, (b_cons (s_set 1 sc_names_of_mark.nd (v_add (v_call F_names_of_plain G_names_of_plain hg (hr.mono (by decide)) hp (a_cons (v_ix hr (v_ix hr (v_var 0) v_int) v_int) a_nil)) (v_call F_names_of_plain G_names_of_plain hg (hr.mono (by decide)) hp (a_cons (v_ix hr (v_ix hr (v_var 0) v_int) v_int) a_nil))))
  (b_cons (s_for (passes_of rfl) rfl (i_seq (v_ix hr (v_var 0) v_int)) (g_name 2 sc_names_of_mark.nd)
  (b_one (s_set 1 sc_names_of_mark.nd (v_add (v_var 1) (v_call F_names_of_promise G_names_of_promise hg (hr.mono (by decide)) hp (a_cons (v_var 2) a_nil))))))
  (b_one (s_retV 1)))), fun ds Xn Q' h => ?_⟩
  · obtain ⟨rfl, _⟩ := h
    rfl
  · obtain ⟨rfl, hq⟩ := h
    clear hg hr hp T F
    walk_at "u"
    refine ⟨.num 0, rfl, ?_⟩
    walk_at "u"
    refine ⟨.n, rfl, ?_⟩
    walk_at "u"
    exact hq
theorem ok_names_read {f : Addr} {fd : FuncData} (T : Txu K mg [C] [S] aL aC aR aH) (F : Fun K "names_read" "names_read" s_names_read f fd)
    {f1 : Addr} {d1 : FuncData} (F_names_of_term : FnG P w K mg base 2 f1 d1 ["term"] (spV K (wfNamesT))) (G_names_of_term : Glob K mg "names_of_term" f1 d1 ["term"])
    {f2 : Addr} {d2 : FuncData} (F_names_of_plain : FnG P w K mg base 1 f2 d2 ["term"] (spV K (wfNamesT))) (G_names_of_plain : Glob K mg "names_of_plain" f2 d2 ["term"])
    {f3 : Addr} {d3 : FuncData} (F_names_of_call : FnG P w K mg base 1 f3 d3 ["row"] (spV K (fun _ _ _ _ => False))) (G_names_of_call : Glob K mg "names_of_call" f3 d3 ["row"])
    {f4 : Addr} {d4 : FuncData} (F_names_of_comparison : FnG P w K mg base 3 f4 d4 ["comparison"] (spV K (wfNamesC))) (G_names_of_comparison : Glob K mg "names_of_comparison" f4 d4 ["comparison"])
    {f5 : Addr} {d5 : FuncData} (F_names_of_mark : FnG P w K mg base 2 f5 d5 ["row"] (spV K (wfNamesM))) (G_names_of_mark : Glob K mg "names_of_mark" f5 d5 ["row"]) : FnG P w K mg base 4 f fd ["row"] (spV K (wfNamesR )) := by
  refine def_ok F sc_names_read (fun R ds Xn Q' h => ?_) fun R cdv A outer s H E hg hr hp => ⟨_, _, (b_cons (s_set 1 sc_names_read.nd (v_ix hr (v_var 0) v_int))
  (b_cons (s_if (t_cmp (c_eq hr) (v_var 1) v_str)
  (b_one (s_ret (v_call F_names_of_term G_names_of_term hg (hr.mono (by decide)) hp (a_cons (v_ix hr (v_var 0) v_int) a_nil))))
  b_nil)
  (b_cons (s_if (t_cmp (c_eq hr) (v_var 1) v_str)
  (b_one (s_ret (v_add (v_call F_names_of_plain G_names_of_plain hg (hr.mono (by decide)) hp (a_cons (v_ix hr (v_var 0) v_int) a_nil)) (v_call F_names_of_term G_names_of_term hg (hr.mono (by decide)) hp (a_cons (v_ix hr (v_var 0) v_int) a_nil)))))
  b_nil)
  (b_cons (s_if (t_cmp (c_in hr) (v_var 1) (v_tup (a_cons v_str (a_cons v_str a_nil))))
  (b_one (s_ret (v_add (v_call F_names_of_plain G_names_of_plain hg (hr.mono (by decide)) hp (a_cons (v_ix hr (v_var 0) v_int) a_nil)) (v_call F_names_of_plain G_names_of_plain hg (hr.mono (by decide)) hp (a_cons (v_ix hr (v_var 0) v_int) a_nil)))))
  b_nil)
  (b_cons (s_if (t_cmp (c_eq hr) (v_var 1) v_str)
  (b_one (s_ret (v_call F_names_of_call G_names_of_call hg (hr.mono (by decide)) hp (a_cons (v_var 0) a_nil))))
  b_nil)
  (b_cons (s_if (t_cmp (c_eq hr) (v_var 1) v_str)
  (b_one (s_ret (v_call F_names_of_term G_names_of_term hg (hr.mono (by decide)) hp (a_cons (v_ix hr (v_var 0) v_int) a_nil))))
  b_nil)
  (b_cons (s_if (t_cmp (c_eq hr) (v_var 1) v_str)
  (b_one (s_ret (v_call F_names_of_comparison G_names_of_comparison hg (hr.mono (by decide)) hp (a_cons (v_ix hr (v_var 0) v_int) a_nil))))
  b_nil)
  (b_one (s_ret (v_if (t_cmp (c_eq hr) (v_var 1) v_str) (v_call F_names_of_mark G_names_of_mark hg (hr.mono (by decide)) hp (a_cons (v_var 0) a_nil)) (v_lst a_nil))))))))))), fun ds Xn Q' h => ?_⟩
  · obtain ⟨k, rfl, _⟩ := h
    rfl
  · obtain ⟨k, rfl, hq⟩ := h
    clear hg hr hp T F
    cases k with
    | set => walk_at "u"; exact ⟨.n, rfl, hq⟩
    | mark => walk_at "u"; exact hq
    | test l t to => walk_at "u"; exact ⟨t, rfl, hq⟩
    | jump l to => walk_at "u"; exact hq
    | retx => walk_at "u"; exact ⟨.x, rfl, hq⟩
    | rety => walk_at "u"; exact ⟨.y, rfl, hq⟩
    | fail => walk_at "u"; exact hq
theorem ok_reads {f : Addr} {fd : FuncData} (T : Txu K mg [C] [S] aL aC aR aH) (F : Fun K "reads" "reads" s_reads f fd)
    {f1 : Addr} {d1 : FuncData} (F_names_read : FnG P w K mg base 4 f1 d1 ["row"] (spV K (wfNamesR))) (G_names_read : Glob K mg "names_read" f1 d1 ["row"]) : FnG P w K mg base 5 f fd ["unit", "at"] (spV K (wfReads C )) := by
  refine def_ok F sc_reads (fun R ds Xn Q' h => ?_) fun R cdv A outer s H E hg hr hp => ⟨_, _, (b_one (s_ret (v_b1 (call_sortedD rfl) unw_sortedS T.n_sorted (by decide +kernel) (v_dc rfl sc_reads.nd (i_seq (v_call F_names_read G_names_read hg (hr.mono (by decide)) hp (a_cons (v_ix hr (v_fld T.at_rows (v_var 0)) (v_var 1)) a_nil))) (own := [("name", 2)]) rfl (fun _ _ _ _ _ => (g_name 2 sc_reads.nd)) (fun _ _ _ _ _ => (ts_one (t_cmp (c_in hr) (v_var 2) (v_fld T.at_registers (v_var 0))))) (fun _ _ _ _ _ => (v_var 2)) (fun _ _ _ _ _ => v_bl))))), fun ds Xn Q' h => ?_⟩
  · obtain ⟨ks, k, at_, rfl, _⟩ := h
    rfl
  · obtain ⟨ks, k, at_, rfl, hk, hc, hq⟩ := h
    have hC : C ∈ [C] := by simp
    clear hg hr hp T F
    have hrj : ixD (ks.map rowD) (at_ : Int) = some (rowD k) := by rw [ixD_nat, List.getElem?_map, hk]; rfl
    walk_at "u"
    refine ⟨k, rfl, ?_⟩
    cases k with
    | set =>
      walk_at "u"
      intro ys hy
      rw [List.Perm.eq_nil hy]
      exact hq
    | mark =>
      walk_at "u"
      intro ys hy
      rw [List.Perm.eq_nil hy]
      exact hq
    | test l t to =>
      have hc : t.names = [] := hc
      have e : (Rk.test l t to).names = [.str "n"] := by show D.str "n" :: t.names = _; rw [hc]
      rw [e]
      walk_at "u"
      intro ys hy
      rw [List.Perm.eq_nil hy]
      exact hq
    | jump l to =>
      walk_at "u"
      intro ys hy
      rw [List.Perm.eq_nil hy]
      exact hq
    | retx =>
      walk_at "u"
      intro ys hy
      rw [List.perm_singleton.mp hy]
      exact hq
    | rety =>
      walk_at "u"
      intro ys hy
      rw [List.perm_singleton.mp hy]
      exact hq
    | fail =>
      walk_at "u"
      intro ys hy
      rw [List.Perm.eq_nil hy]
      exact hq
theorem ok_given_by {f : Addr} {fd : FuncData} (T : Txu K mg [C] [S] aL aC aR aH) (F : Fun K "given_by" "given_by" s_given_by f fd) : FnG P w K mg base 1 f fd ["unit", "at"] (spV K (wfGiven C )) := by
  refine def_ok F sc_given_by (fun R ds Xn Q' h => ?_) fun R cdv A outer s H E hg hr hp => ⟨_, _, (b_cons (s_set 2 sc_given_by.nd (v_ix hr (v_fld T.at_rows (v_var 0)) (v_var 1)))
  (b_one (s_ret (v_if (t_cmp (c_in hr) (v_ix hr (v_var 2) v_int) (v_tup (a_cons v_str (a_cons v_str (a_cons v_str a_nil))))) (v_ix hr (v_var 2) v_int) v_non)))), fun ds Xn Q' h => ?_⟩
  · obtain ⟨ks, k, at_, rfl, _⟩ := h
    rfl
  · obtain ⟨ks, k, at_, rfl, hk, hq⟩ := h
    have hC : C ∈ [C] := by simp
    clear hg hr hp T F
    have hrj : ixD (ks.map rowD) (at_ : Int) = some (rowD k) := by rw [ixD_nat, List.getElem?_map, hk]; rfl
    cases k with
    | set => walk_at "u"; exact hq.1 rfl
    | _ => walk_at "u"; exact hq.2 (by simp)
theorem ok_values_by {f : Addr} {fd : FuncData} (T : Txu K mg [C] [S] aL aC aR aH) (F : Fun K "values_by" "values_by" s_values_by f fd)
    {f1 : Addr} {d1 : FuncData} (F_given_by : FnG P w K mg base 1 f1 d1 ["unit", "at"] (spV K (wfGiven C))) (G_given_by : Glob K mg "given_by" f1 d1 ["unit", "at"]) : FnG P w K mg base 2 f fd ["unit", "at"] (spV K (wfVals C )) := by
  refine def_ok F sc_values_by (fun R ds Xn Q' h => ?_) fun R cdv A outer s H E hg hr hp => ⟨_, _, (b_cons (s_set 2 sc_values_by.nd (v_call F_given_by G_given_by hg (hr.mono (by decide)) hp (a_cons (v_var 0) (a_cons (v_var 1) a_nil))))
  (b_frz 2 (b_one (s_ret (v_if (t_cmp c_is (v_var 2) v_non) (v_lst a_nil) (v_lst (a_cons (v_var 2) a_nil))))))), fun ds Xn Q' h => ?_⟩
  · obtain ⟨ks, k, at_, rfl, _⟩ := h
    rfl
  · obtain ⟨ks, k, at_, rfl, hk, hq⟩ := h
    clear hg hr hp T F
    walk_at "u"
    refine ⟨ks, k, at_, rfl, hk, fun c => ?_, fun c => ?_⟩
    · subst c
      walk_at "u"
      exact hq
    · have e : k.vals.map D.str = [] := by cases k <;> first | rfl | exact absurd rfl c
      rw [e] at hq
      walk_at "u"
      exact hq
theorem ok_changed_by {f : Addr} {fd : FuncData} (T : Txu K mg [C] [S] aL aC aR aH) (F : Fun K "changed_by" "changed_by" s_changed_by f fd)
    {f1 : Addr} {d1 : FuncData} (F_Unit_used : FnG P w K mg base 0 f1 d1 ["self", "name"] (spV K (fun _ _ _ _ => False))) (M_Unit_used : MethG K C "used" f1 d1 ["self", "name"]) : FnG P w K mg base 1 f fd ["unit", "at"] (spV K (wfChanged C )) := by
  refine def_ok F sc_changed_by (fun R ds Xn Q' h => ?_) fun R cdv A outer s H E hg hr hp => ⟨_, _, (b_cons (s_set 2 sc_changed_by.nd (v_ix hr (v_fld T.at_rows (v_var 0)) (v_var 1)))
  (b_cons (s_if (t_cmp (c_in hr) (v_ix hr (v_var 2) v_int) (v_tup (a_cons v_str (a_cons v_str a_nil))))
  (b_one (s_ret (v_lst (a_cons (v_ix hr (v_var 2) v_int) a_nil))))
  b_nil)
  (b_cons (s_if (t_cmp (c_ne hr) (v_ix hr (v_var 2) v_int) v_str)
  (b_one (s_ret (v_lst a_nil)))
  b_nil)
  (b_cons (s_set 3 sc_changed_by.nd (v_meth (v_var 0) M_Unit_used F_Unit_used hg (hr.mono (by decide)) hp (a_cons (v_ix hr (v_var 2) v_int) a_nil)))
  (b_one (s_ret (v_lc rfl sc_changed_by.nd (i_zip T.n_zip (a_cons (v_fld T.at_parameters (v_var 3)) (a_cons (v_ix hr (v_var 2) v_int) a_nil))) (own := [("parameter", 4), ("argument", 5)]) rfl (fun _ _ _ _ _ => (g_tup rfl (gs_cons 4 sc_changed_by.nd (gs_cons 5 sc_changed_by.nd gs_nil)))) (fun _ _ _ _ _ => (ts_one (t_cmp (c_in hr) (v_ix hr (v_var 4) v_int) (v_fld T.at_changes (v_var 3))))) (fun _ _ _ _ _ => (v_ix hr (v_var 5) v_int))))))))), fun ds Xn Q' h => ?_⟩
  · obtain ⟨ks, k, at_, rfl, _⟩ := h
    rfl
  · obtain ⟨ks, k, at_, rfl, hk, hq⟩ := h
    have hC : C ∈ [C] := by simp
    clear hg hr hp T F
    have hrj : ixD (ks.map rowD) (at_ : Int) = some (rowD k) := by rw [ixD_nat, List.getElem?_map, hk]; rfl
    cases k <;> (walk_at "u"; exact hq)
end
end K54

set_option Elab.async false
set_option maxRecDepth 100000
set_option linter.all false
set_option maxHeartbeats 4000000
namespace K54
open PySem L2 VH K50
local macro_rules | `(tactic| walk_at "w") => `(tactic| conv => whnf)
local macro_rules | `(tactic| walk_at "s") => `(tactic| first | assumption | decide | omega | rfl | exact (show (0 : Int) < _ from by decide) | exact ⟨by decide, by decide⟩ | exact nats_flat | exact Or.inl (Or.inl ⟨by decide, by decide⟩) | exact Or.inl (Or.inr ⟨by decide, by decide⟩) | exact Nat.le_of_ble_eq_true rfl | exact line_le (by simp; omega) | exact line_lt (by simp; omega) | exact line_lt (by omega) | exact line_le (by omega))
local macro_rules | `(tactic| walk_at "v") => `(tactic| first
  | (refine And.intro (by walk_at "s") ?_)
  | (refine gOpt_in (by assumption) ?_)
  | (refine dec_yes (dec_t (by first | assumption | omega)) ?_)
  | (refine dec_no (dec_f (by first | assumption | omega)) ?_)
  | (refine dec_yes (dec_nt (by first | assumption | omega)) ?_)
  | (refine dec_no (dec_nf (by first | assumption | omega)) ?_))
local macro_rules | `(tactic| walk_at "u") => `(tactic| (conv => whnf); repeat ((walk_at "v"); (conv => whnf)))

--opts {"prop": {"number_names":"Unit","list_names":"Unit"}}
abbrev s_names_fit : Stmt := topS 69
theorem sc_names_fit : FnScope ["unit", "at", "registers", "lists", "name", "row"] ["unit", "at"] (defScope s_names_fit) := ⟨rfl, rfl, rfl, by decide +kernel, rfl, by decide +kernel, by decide +kernel⟩
abbrev s_steps_back_fit : Stmt := topS 70
theorem sc_steps_back_fit : FnScope ["unit", "at", "standing", "target"] ["unit", "at", "standing"] (defScope s_steps_back_fit) := ⟨rfl, rfl, rfl, by decide +kernel, rfl, by decide +kernel, by decide +kernel⟩
abbrev s_place_fits : Stmt := topS 71
theorem sc_place_fits : FnScope ["unit", "at", "standing", "given", "name"] ["unit", "at", "standing", "given"] (defScope s_place_fits) := ⟨rfl, rfl, rfl, by decide +kernel, rfl, by decide +kernel, by decide +kernel⟩
def kdOf : Rk → Kd
  | .set => .other
  | .mark => .other
  | .test _ _ to => .test to.toNat
  | .jump _ to => .jump to.toNat
  | .retx => .ret
  | .rety => .ret
  | .fail => .fail
def AllFit (ks : List Rk) : Prop := ∀ i k, ks[i]? = some k → fitsB ks.length i k = true
theorem rowIs_test {a b : D} {x : Int} {t : Nat} (h : x = t) : RowIs (.tup [.str "test", a, b, .int x]) (.test t) := by
  subst h; exact .test
theorem rowIs_jump {a : D} {x : Int} {t : Nat} (h : x = t) : RowIs (.tup [.str "jump", a, .int x]) (.jump t) := by
  subst h; exact .jump
theorem rowIs_of {n i : Nat} {k : Rk} (h : fitsB n i k = true) : RowIs (rowD k) (kdOf k) := by
  unfold fitsB at h
  split at h
  · cases h
  · cases k with
    | set => exact .other (by decide) (by decide) (by decide) (by decide)
    | mark => exact .other (by decide) (by decide) (by decide) (by decide)
    | test l t to =>
      simp [Rk.tgt, inB] at h
      exact rowIs_test (by omega)
    | jump l to =>
      simp [Rk.tgt, inB] at h
      exact rowIs_jump (by omega)
    | retx => exact .ret
    | rety => exact .ret
    | fail => exact .fail
theorem rows_of : ∀ {ks : List Rk}, (∀ k ∈ ks, RowIs (rowD k) (kdOf k)) → RowsAre (ks.map rowD) (ks.map kdOf)
  | [], _ => .nil
  | k :: ks, h => .cons (h k (by simp)) (rows_of fun x hx => h x (by simp [hx]))
theorem fit_rows {ks : List Rk} (h : AllFit ks) : RowsAre (ks.map rowD) (ks.map kdOf) := rows_of fun k hk => by
  obtain ⟨i, hi⟩ := List.getElem?_of_mem hk
  exact rowIs_of (h i k hi)
theorem fit_unit {C : Addr} {ks : List Rk} (h : AllFit ks) : UnitIs [C] (uD C (ks.map rowD)) (ks.map kdOf) := ⟨C, _, _, rfl, by simp, rfl, fit_rows h⟩
theorem fit_good {ks : List Rk} (h : AllFit ks) : GoodG (ks.map kdOf) := by
  intro i d hd t ht
  rw [List.getElem?_map] at hd
  obtain ⟨k, hk, rfl⟩ := Option.map_eq_some_iff.mp hd
  have f := h i k hk
  have il := (List.getElem?_eq_some_iff.mp hk).1
  rw [List.length_map]
  unfold fitsB at f
  split at f
  · cases f
  · rename_i c
    cases k with
    | set =>
      have c : ¬ i + 1 = ks.length := fun z => c ⟨z, rfl⟩
      simp [kdOf, lnexts] at ht
      omega
    | mark =>
      have c : ¬ i + 1 = ks.length := fun z => c ⟨z, rfl⟩
      simp [kdOf, lnexts] at ht
      omega
    | test l t' to =>
      have c : ¬ i + 1 = ks.length := fun z => c ⟨z, rfl⟩
      simp [Rk.tgt, inB] at f
      simp [kdOf, lnexts] at ht
      omega
    | jump l to =>
      simp [Rk.tgt, inB] at f
      simp [kdOf, lnexts] at ht
      omega
    | retx => simp [kdOf, lnexts] at ht
    | rety => simp [kdOf, lnexts] at ht
    | fail => simp [kdOf, lnexts] at ht
theorem forth_ge {ks : List Kd} {a x : Nat} (g : GoodG ks) (h : Reach (forthL ks a) a x) : a ≤ x ∧ x < ks.length := by
  have ge : ∀ {p : Nat} {l : List Nat}, (forthL ks a)[p]? = some l → ∀ t ∈ l, a ≤ t := fun {p l} h t ht => by
    unfold forthL at h
    rw [List.getElem?_map] at h
    obtain ⟨i, _, rfl⟩ := Option.map_eq_some_iff.mp h
    simpa using (List.mem_filter.mp ht).2
  cases h with
  | one h1 h2 => exact ⟨ge h1 _ h2, forth_lt g h1 _ h2⟩
  | more _ h1 h2 => exact ⟨ge h1 _ h2, forth_lt g h1 _ h2⟩
def NoSet (ks : List Rk) (a : Nat) : Prop := ∀ x, a ≤ x → ks[x]? ≠ some .set
def BackOk (ks : List Rk) (res : List (Option (List Nat))) (a : Nat) : Prop := ∀ t ∈ steps (ks.map kdOf) a, t ≤ a → ks[t]? = some .mark ∧ ∀ l, res[a]? = some (some l) → t ∈ l
def wfNamesFit (C : Addr) : WF := fun _ ds _ Q => ∃ (ks : List Rk) (at_ : Nat), ds = [uD C (ks.map rowD), .int at_] ∧ ks[at_]? = some .mark ∧ AllFit ks ∧ ks.length < 64 ∧ NoSet ks at_ ∧ Q (.sh (.bl true))
def wfBackFit (C : Addr) : WF := fun _ ds _ Q => ∃ (ks : List Rk) (res : List (Option (List Nat))) (at_ : Nat), ds = [uD C (ks.map rowD), .int at_, .lst (res.map encS)] ∧ at_ < ks.length ∧ res.length = ks.length ∧ AllFit ks ∧ ks.length < 64 ∧ BackOk ks res at_ ∧ Q (.sh (.bl true))
def wfPlace (C : Addr) : WF := fun _ ds _ Q => ∃ (ks : List Rk) (k : Rk) (res : List (Option (List Nat))) (L : List (Option (List Key))) (at_ : Nat), ds = [uD C (ks.map rowD), .int at_, .lst (res.map encS), .lst (L.map enc)] ∧
  ks[at_]? = some k ∧ k.calm ∧ res.length = ks.length ∧ L.length = ks.length ∧ AllFit ks ∧ ks.length < 64 ∧ (k = .mark → NoSet ks at_) ∧ BackOk ks res at_ ∧ ∃ b : Bool, (∀ S, L[at_]? = some (some S) → (k.reads.all fun s => kmem (.inr s) S) = b) ∧ (L[at_]? = some none → b = true) ∧ Q (.sh (.bl b))
section
variable {P : Program} {w : World} {K : PySem.W.Frag} {mg : Str → Option Value} {base : Heap} {C S : Addr} {aL aC aR aH : Addr}
theorem ok_names_fit {f : Addr} {fd : FuncData} (T : Txu K mg [C] [S] aL aC aR aH) (F : Fun K "names_fit" "names_fit" s_names_fit f fd)
    {f1 : Addr} {d1 : FuncData} (F_Unit_list_names : FnG P w K mg base 1 f1 d1 ["self"] (spV K (wfLists C))) (P_Unit_list_names : PropG K C "list_names" f1 d1 ["self"])
    {f2 : Addr} {d2 : FuncData} (F_round_rows : FnG P w K mg base 3 f2 d2 ["unit", "at"] (spV K (wfRound [C]))) (G_round_rows : Glob K mg "round_rows" f2 d2 ["unit", "at"])
    {f3 : Addr} {d3 : FuncData} (F_values_by : FnG P w K mg base 2 f3 d3 ["unit", "at"] (spV K (wfVals C))) (G_values_by : Glob K mg "values_by" f3 d3 ["unit", "at"])
    {f4 : Addr} {d4 : FuncData} (F_changed_by : FnG P w K mg base 1 f4 d4 ["unit", "at"] (spV K (wfChanged C))) (G_changed_by : Glob K mg "changed_by" f4 d4 ["unit", "at"]) : FnG P w K mg base 4 f fd ["unit", "at"] (spV K (wfNamesFit C )) := by
  refine def_ok F sc_names_fit (fun R ds Xn Q' h => ?_) fun R cdv A outer s H E hg hr hp => ⟨_, _, (b_cons (s_asgG (v_tup (a_cons (v_ix hr (v_ix hr (v_fld T.at_rows (v_var 0)) (v_var 1)) v_int) (a_cons (v_ix hr (v_ix hr (v_fld T.at_rows (v_var 0)) (v_var 1)) v_int) a_nil))) (g_tup rfl (gs_cons 2 sc_names_fit.nd (gs_cons 3 sc_names_fit.nd gs_nil))))
  (b_cons (s_if (t_cmp (c_ne hr) (v_t1 call_list_of unw_list T.n_list (by decide +kernel) (v_var 2)) (v_lc rfl sc_names_fit.nd (i_seq (v_fld T.at_registers (v_var 0))) (own := [("name", 4)]) rfl (fun _ _ _ _ _ => (g_name 4 sc_names_fit.nd)) (fun _ _ _ _ _ => (ts_one (t_cmp (c_in hr) (v_var 4) (v_var 2)))) (fun _ _ _ _ _ => (v_var 4))))
  (b_one (s_ret v_bl))
  b_nil)
  (b_cons (s_if (t_cmp (c_ne hr) (v_t1 call_list_of unw_list T.n_list (by decide +kernel) (v_var 3)) (v_lc rfl sc_names_fit.nd (i_seq (v_prop P_Unit_list_names F_Unit_list_names hg (hr.mono (by decide)) (v_var 0))) (own := [("name", 4)]) rfl (fun _ _ _ _ _ => (g_name 4 sc_names_fit.nd)) (fun _ _ _ _ _ => (ts_one (t_cmp (c_in hr) (v_var 4) (v_var 3)))) (fun _ _ _ _ _ => (v_var 4))))
  (b_one (s_ret v_bl))
  b_nil)
  (b_cons (s_for (passes_of rfl) rfl (i_seq (v_call F_round_rows G_round_rows hg (hr.mono (by decide)) hp (a_cons (v_var 0) (a_cons (v_var 1) a_nil)))) (g_name 5 sc_names_fit.nd)
  (b_cons (s_if (t_not (t_tru (v_b1 (cr_all rfl) unw_all T.n_all (by decide +kernel) (v_lc rfl sc_names_fit.nd (i_seq (v_call F_values_by G_values_by hg (hr.mono (by decide)) hp (a_cons (v_var 0) (a_cons (v_var 5) a_nil)))) (own := [("name", 4)]) rfl (fun _ _ _ _ _ => (g_name 4 sc_names_fit.nd)) (fun _ _ _ _ _ => ts_nil) (fun _ _ _ _ _ => (v_cmp (c_in hr) (v_var 4) (v_var 2)))))))
  (b_one (s_ret v_bl))
  b_nil)
  (b_one (s_if (t_not (t_tru (v_b1 (cr_all rfl) unw_all T.n_all (by decide +kernel) (v_lc rfl sc_names_fit.nd (i_seq (v_call F_changed_by G_changed_by hg (hr.mono (by decide)) hp (a_cons (v_var 0) (a_cons (v_var 5) a_nil)))) (own := [("name", 4)]) rfl (fun _ _ _ _ _ => (g_name 4 sc_names_fit.nd)) (fun _ _ _ _ _ => ts_nil) (fun _ _ _ _ _ => (v_cmp (c_in hr) (v_var 4) (v_var 3)))))))
  (b_one (s_ret v_bl))
  b_nil))))
  (b_one (s_ret v_bl)))))), fun ds Xn Q' h => ?_⟩
  · obtain ⟨ks, at_, rfl, _⟩ := h
    rfl
  · obtain ⟨ks, at_, rfl, hk, hf, hn, hs, hq⟩ := h
    have hC : C ∈ [C] := by simp
    clear hg hr hp T F
    have hrj : ixD (ks.map rowD) (at_ : Int) = some (rowD .mark) := by rw [ixD_nat, List.getElem?_map, hk]; rfl
    have al := (List.getElem?_eq_some_iff.mp hk).1
    walk_at "u"
    refine ⟨_, _, rfl, rfl, rfl, rfl, ?_⟩
    walk_at "u"
    refine ⟨_, rfl, ?_⟩
    walk_at "u"
    refine ⟨_, _, rfl, rfl, rfl, rfl, ?_⟩
    walk_at "u"
    refine ⟨_, ks.map kdOf, at_, rfl, fit_unit hf, fit_good hf, by simpa using al, by simpa using hn, fun l h1 h2 h3 => ?_⟩
    walk_at "u"
    refine forW_ind (fun ds env => ∃ (dn tl : List Nat) (s4 s5 : Slot), ds = nats tl ∧ l = dn ++ tl ∧ env = [.sh (uD C (ks.map rowD)), .sh (.int (at_ : Nat)), .sh (.tup []), .sh (.tup []), s4, s5]) ?_ ?_ ⟨[], l, _, _, rfl, rfl, rfl⟩
    · rintro env ⟨dn, tl, s4, s5, _, _, rfl⟩
      walk_at "u"
      exact hq
    · rintro d ds env ⟨dn, tl, s4, s5, e1, e2, rfl⟩ ih
      cases tl with
      | nil => cases e1
      | cons x tl =>
      obtain ⟨rfl, rfl⟩ := List.cons.inj e1
      obtain ⟨ge, lt⟩ := forth_ge (fit_good hf) ((h3 x).mp (by rw [e2]; simp)).1
      rw [List.length_map] at lt
      obtain ⟨k, hk'⟩ : ∃ k, ks[x]? = some k := ⟨_, List.getElem?_eq_getElem lt⟩
      have kv : k.vals = [] := by
        cases k <;> first | rfl | exact absurd hk' (hs x ge)
      walk_at "u"
      refine ⟨ks, k, x, rfl, hk', ?_⟩
      rw [kv]
      walk_at "u"
      refine ⟨ks, k, x, rfl, hk', ?_⟩
      walk_at "u"
      exact ih _ ⟨dn ++ [x], tl, _, _, rfl, by rw [e2]; simp, rfl⟩
theorem ok_steps_back_fit {f : Addr} {fd : FuncData} (T : Txu K mg [C] [S] aL aC aR aH) (F : Fun K "steps_back_fit" "steps_back_fit" s_steps_back_fit f fd)
    {f1 : Addr} {d1 : FuncData} (F_next_rows : FnG P w K mg base 2 f1 d1 ["unit", "at"] (spV K (wfNext [C]))) (G_next_rows : Glob K mg "next_rows" f1 d1 ["unit", "at"])
    {f2 : Addr} {d2 : FuncData} (F_is_back : FnG P w K mg base 1 f2 d2 ["at", "target"] (spV K (wfBack))) (G_is_back : Glob K mg "is_back" f2 d2 ["at", "target"]) : FnG P w K mg base 3 f fd ["unit", "at", "standing"] (spV K (wfBackFit C )) := by
  refine def_ok F sc_steps_back_fit (fun R ds Xn Q' h => ?_) fun R cdv A outer s H E hg hr hp => ⟨_, _, (b_cons (s_for (passes_of rfl) rfl (i_seq (v_call F_next_rows G_next_rows hg (hr.mono (by decide)) hp (a_cons (v_var 0) (a_cons (v_var 1) a_nil)))) (g_name 3 sc_steps_back_fit.nd)
  (b_one (s_if (t_tru (v_call F_is_back G_is_back hg (hr.mono (by decide)) hp (a_cons (v_var 1) (a_cons (v_var 3) a_nil))))
  (b_cons (s_if (t_cmp (c_ne hr) (v_ix hr (v_ix hr (v_fld T.at_rows (v_var 0)) (v_var 3)) v_int) v_str)
  (b_one (s_ret v_bl))
  b_nil)
  (b_one (s_if (t_bool (w_and (t_cmp c_isNot (v_ix hr (v_var 2) (v_var 1)) v_non) (w_and1 (t_cmp (c_notIn hr) (v_var 3) (v_ix hr (v_var 2) (v_var 1))))))
  (b_one (s_ret v_bl))
  b_nil)))
  b_nil)))
  (b_one (s_ret v_bl))), fun ds Xn Q' h => ?_⟩
  · obtain ⟨ks, res, at_, rfl, _⟩ := h
    rfl
  · obtain ⟨ks, res, at_, rfl, al, rl, hf, hn, hb, hq⟩ := h
    have hC : C ∈ [C] := by simp
    clear hg hr hp T F
    walk_at "u"
    refine ⟨_, ks.map kdOf, at_, rfl, fit_unit hf, by simpa using al, ?_⟩
    walk_at "u"
    refine forW_ind (fun ds env => ∃ (dn tl : List Nat) (s3 : Slot), ds = nats tl ∧ ded [] (steps (ks.map kdOf) at_) = dn ++ tl ∧ env = [.sh (uD C (ks.map rowD)), .sh (.int (at_ : Nat)), .sh (.lst (res.map encS)), s3]) ?_ ?_ ⟨[], _, _, rfl, rfl, rfl⟩
    · rintro env ⟨dn, tl, s3, _, _, rfl⟩
      walk_at "u"
      exact hq
    · rintro d ds env ⟨dn, tl, s3, e1, e2, rfl⟩ ih
      cases tl with
      | nil => cases e1
      | cons t tl =>
      obtain ⟨rfl, rfl⟩ := List.cons.inj e1
      have ht : t ∈ steps (ks.map kdOf) at_ := by
        have : t ∈ ded [] (steps (ks.map kdOf) at_) := by rw [e2]; simp
        rw [ded_mem] at this
        simpa using this
      have next : ∀ s3, ∃ (dn' tl' : List Nat) (s3' : Slot), nats tl = nats tl' ∧ ded [] (steps (ks.map kdOf) at_) = dn' ++ tl' ∧ ([.sh (uD C (ks.map rowD)), .sh (.int (at_ : Nat)), .sh (.lst (res.map encS)), s3] : VH.Env) = [.sh (uD C (ks.map rowD)), .sh (.int (at_ : Nat)), .sh (.lst (res.map encS)), s3'] := fun s3 => ⟨dn ++ [t], tl, s3, rfl, by rw [e2]; simp, rfl⟩
      walk_at "u"
      refine ⟨_, _, rfl, ?_⟩
      by_cases c : t ≤ at_
      · obtain ⟨hm, hl⟩ := hb t ht c
        have hrj : ixD (ks.map rowD) (t : Int) = some (rowD .mark) := by rw [ixD_nat, List.getElem?_map, hm]; rfl
        obtain ⟨o, ho⟩ : ∃ o, res[at_]? = some o := ⟨_, List.getElem?_eq_getElem (by omega)⟩
        have hst : ixD (res.map encS) (at_ : Int) = some (encS o) := by rw [ixD_nat, List.getElem?_map, ho]; rfl
        cases o with
        | none =>
          walk_at "u"
          exact ih _ (next _)
        | some l =>
          have hin := hl l ho
          walk_at "u"
          refine dec_no ?_ ?_
          · show ¬ (!((nats l).any fun y => eqF y (.int (t : Nat)))) = true
            rw [nats_any.mpr hin]
            decide
          · walk_at "u"
            exact ih _ (next _)
      · walk_at "u"
        exact ih _ (next _)
theorem ok_place_fits {f : Addr} {fd : FuncData} (T : Txu K mg [C] [S] aL aC aR aH) (F : Fun K "place_fits" "place_fits" s_place_fits f fd)
    {f1 : Addr} {d1 : FuncData} (F_reads : FnG P w K mg base 5 f1 d1 ["unit", "at"] (spV K (wfReads C))) (G_reads : Glob K mg "reads" f1 d1 ["unit", "at"])
    {f2 : Addr} {d2 : FuncData} (F_changed_by : FnG P w K mg base 1 f2 d2 ["unit", "at"] (spV K (wfChanged C))) (G_changed_by : Glob K mg "changed_by" f2 d2 ["unit", "at"])
    {f3 : Addr} {d3 : FuncData} (F_names_fit : FnG P w K mg base 4 f3 d3 ["unit", "at"] (spV K (wfNamesFit C))) (G_names_fit : Glob K mg "names_fit" f3 d3 ["unit", "at"])
    {f4 : Addr} {d4 : FuncData} (F_steps_back_fit : FnG P w K mg base 3 f4 d4 ["unit", "at", "standing"] (spV K (wfBackFit C))) (G_steps_back_fit : Glob K mg "steps_back_fit" f4 d4 ["unit", "at", "standing"]) : FnG P w K mg base 6 f fd ["unit", "at", "standing", "given"] (spV K (wfPlace C )) := by
  refine def_ok F sc_place_fits (fun R ds Xn Q' h => ?_) fun R cdv A outer s H E hg hr hp => ⟨_, _, (b_cons (s_if (t_bool (w_and (t_cmp c_isNot (v_ix hr (v_var 3) (v_var 1)) v_non) (w_and1 (t_not (t_tru (v_b1 (cr_all rfl) unw_all T.n_all (by decide +kernel) (v_lc rfl sc_place_fits.nd (i_seq (v_call F_reads G_reads hg (hr.mono (by decide)) hp (a_cons (v_var 0) (a_cons (v_var 1) a_nil)))) (own := [("name", 4)]) rfl (fun _ _ _ _ _ => (g_name 4 sc_place_fits.nd)) (fun _ _ _ _ _ => ts_nil) (fun _ _ _ _ _ => (v_cmp (c_in hr) (v_var 4) (v_ix hr (v_var 3) (v_var 1)))))))))))
  (b_one (s_ret v_bl))
  b_nil)
  (b_cons (s_if (t_not (t_tru (v_b1 (cr_all rfl) unw_all T.n_all (by decide +kernel) (v_lc rfl sc_place_fits.nd (i_seq (v_call F_changed_by G_changed_by hg (hr.mono (by decide)) hp (a_cons (v_var 0) (a_cons (v_var 1) a_nil)))) (own := [("name", 4)]) rfl (fun _ _ _ _ _ => (g_name 4 sc_place_fits.nd)) (fun _ _ _ _ _ => ts_nil) (fun _ _ _ _ _ => (v_cmp (c_in hr) (v_var 4) (v_fld T.at_changes (v_var 0))))))))
  (b_one (s_ret v_bl))
  b_nil)
  (b_cons (s_if (t_bool (w_and (t_cmp (c_eq hr) (v_ix hr (v_ix hr (v_fld T.at_rows (v_var 0)) (v_var 1)) v_int) v_str) (w_and1 (t_not (t_tru (v_call F_names_fit G_names_fit hg (hr.mono (by decide)) hp (a_cons (v_var 0) (a_cons (v_var 1) a_nil))))))))
  (b_one (s_ret v_bl))
  b_nil)
  (b_one (s_ret (v_call F_steps_back_fit G_steps_back_fit hg (hr.mono (by decide)) hp (a_cons (v_var 0) (a_cons (v_var 1) (a_cons (v_var 2) a_nil))))))))), fun ds Xn Q' h => ?_⟩
  · obtain ⟨ks, k, res, L, at_, rfl, _⟩ := h
    rfl
  · obtain ⟨ks, k, res, L, at_, rfl, hk, calm, rl, ll, hf, hn, hns, hb, b, b1, b2, hq⟩ := h
    have hC : C ∈ [C] := by simp
    clear hg hr hp T F
    have hrj : ixD (ks.map rowD) (at_ : Int) = some (rowD k) := by rw [ixD_nat, List.getElem?_map, hk]; rfl
    have al := (List.getElem?_eq_some_iff.mp hk).1
    obtain ⟨o, ho⟩ : ∃ o, L[at_]? = some o := ⟨_, List.getElem?_eq_getElem (by omega)⟩
    have hgi : ixD (L.map enc) (at_ : Int) = some (enc o) := by rw [ixD_nat, List.getElem?_map, ho]; rfl
    cases o with
    | none =>
      have hb2 := b2 ho
      subst hb2
      walk_at "u"
      refine ⟨ks, k, at_, rfl, hk, ?_⟩
      cases k with
      | mark =>
        walk_at "u"
        refine ⟨ks, at_, rfl, hk, hf, hn, hns rfl, ?_⟩
        walk_at "u"
        exact ⟨ks, res, at_, rfl, al, rl, hf, hn, hb, hq⟩
      | _ =>
        walk_at "u"
        exact ⟨ks, res, at_, rfl, al, rl, hf, hn, hb, hq⟩
    | some S =>
      have hb1 := b1 S ho
      walk_at "u"
      refine ⟨ks, k, at_, rfl, hk, calm, ?_⟩
      cases k with
      | mark =>
        have hb1 : true = b := hb1
        subst hb1
        walk_at "u"
        refine ⟨ks, _, at_, rfl, hk, ?_⟩
        walk_at "u"
        refine ⟨ks, at_, rfl, hk, hf, hn, hns rfl, ?_⟩
        walk_at "u"
        exact ⟨ks, res, at_, rfl, al, rl, hf, hn, hb, hq⟩
      | retx =>
        have hb1 : (kmem (.inr "x") S && true) = b := hb1
        rw [Bool.and_true] at hb1
        have hd : (dkGet (tr S) (Sum.inr "x")).isSome = b := by
          rw [← hb1, Bool.eq_iff_iff, tr_get, kmem_iff]
        walk_at "u"
        cases b with
        | true =>
          refine dec_no ?_ ?_
          · show ¬ (!([(dkGet (tr S) (Sum.inr "x")).isSome].all id)) = true
            rw [hd]
            decide
          · walk_at "u"
            refine ⟨ks, _, at_, rfl, hk, ?_⟩
            walk_at "u"
            exact ⟨ks, res, at_, rfl, al, rl, hf, hn, hb, hq⟩
        | false =>
          refine dec_yes ?_ ?_
          · show (!([(dkGet (tr S) (Sum.inr "x")).isSome].all id)) = true
            rw [hd]
            decide
          · walk_at "u"
            exact hq
      | rety =>
        have hb1 : (kmem (.inr "y") S && true) = b := hb1
        rw [Bool.and_true] at hb1
        have hd : (dkGet (tr S) (Sum.inr "y")).isSome = b := by
          rw [← hb1, Bool.eq_iff_iff, tr_get, kmem_iff]
        walk_at "u"
        cases b with
        | true =>
          refine dec_no ?_ ?_
          · show ¬ (!([(dkGet (tr S) (Sum.inr "y")).isSome].all id)) = true
            rw [hd]
            decide
          · walk_at "u"
            refine ⟨ks, _, at_, rfl, hk, ?_⟩
            walk_at "u"
            exact ⟨ks, res, at_, rfl, al, rl, hf, hn, hb, hq⟩
        | false =>
          refine dec_yes ?_ ?_
          · show (!([(dkGet (tr S) (Sum.inr "y")).isSome].all id)) = true
            rw [hd]
            decide
          · walk_at "u"
            exact hq
      | _ =>
        have hb1 : true = b := hb1
        subst hb1
        walk_at "u"
        refine ⟨ks, _, at_, rfl, hk, ?_⟩
        walk_at "u"
        exact ⟨ks, res, at_, rfl, al, rl, hf, hn, hb, hq⟩
end
end K54

set_option Elab.async false
set_option maxRecDepth 100000
set_option linter.all false
set_option maxHeartbeats 4000000
namespace K54
open PySem L2 VH K50
local macro_rules | `(tactic| walk_at "w") => `(tactic| conv => whnf)
local macro_rules | `(tactic| walk_at "s") => `(tactic| first | assumption | decide | omega | rfl | exact (show (0 : Int) < _ from by decide) | exact ⟨by decide, by decide⟩ | exact nats_flat | exact Or.inl (Or.inl ⟨by decide, by decide⟩) | exact Or.inl (Or.inr ⟨by decide, by decide⟩) | exact Nat.le_of_ble_eq_true rfl | exact line_le (by simp; omega) | exact line_lt (by simp; omega) | exact line_lt (by omega) | exact line_le (by omega))
local macro_rules | `(tactic| walk_at "v") => `(tactic| first
  | (refine And.intro (by walk_at "s") ?_)
  | (refine gOpt_in (by assumption) ?_)
  | (refine dec_yes (dec_t (by first | assumption | omega)) ?_)
  | (refine dec_no (dec_f (by first | assumption | omega)) ?_)
  | (refine dec_yes (dec_nt (by first | assumption | omega)) ?_)
  | (refine dec_no (dec_nf (by first | assumption | omega)) ?_))
local macro_rules | `(tactic| walk_at "u") => `(tactic| (conv => whnf); repeat ((walk_at "v"); (conv => whnf)))

--opts {"frzat": {("wrong_at", "for at in range(len(unit.rows)):"): ["standing", "given"]}}
abbrev s_wrong_at : Stmt := topS 72
theorem sc_wrong_at : FnScope ["unit", "at", "plain", "failing", "standing", "given"] ["unit"] (defScope s_wrong_at) := ⟨rfl, rfl, rfl, by decide +kernel, rfl, by decide +kernel, by decide +kernel⟩
/-- the shape of the law's units -/
structure Shp (ks : List Rk) : Prop where
  s0 : ks[0]? = some .set
  s1 : ks[1]? = some .mark
  s2 : ∀ (i : Nat) (k : Rk), 2 ≤ i → ks[i]? = some k → k ≠ .set ∧ k ≠ .mark
  calm : ∀ k ∈ ks, k.calm
  ts : ∀ (i l : Nat) (t : Tm) (to : Int), ks[i]? = some (.test l t to) → (i : Int) < to
  jp : ∀ (i l : Nat) (to : Int), ks[i]? = some (.jump l to) → to = 1 ∧ 2 ≤ i
theorem flow_has {kds : List Kd} {th : Nat → List Key} {U : List Key} {L : List (Option (List Key))} (f : Flo kds th U (edge kds) L) {x : Key} {r : Nat} (hx : x ∈ th r) (he : ∀ p t, r < t → t < kds.length → edge kds p t → r ≤ p) :
    ∀ t, r < t → t < kds.length → ∀ S, L[t]? = some (some S) → x ∈ S := by
  intro t
  induction t using Nat.strongRecOn with
  | ind t ih =>
    intro hr ht S hS
    refine (((f.pre t (by omega) ht).2 S hS).2 x).mpr fun p hp Sp hSp => ?_
    have := he p t hr ht hp
    by_cases c : p = r
    · rw [c]; exact .inr hx
    · exact .inl (ih p hp.1 (by omega) (by have := hp.1; omega) Sp hSp)
theorem step_of {ks : List Rk} {i : Nat} {k : Rk} (h : AllFit ks) (hk : ks[i]? = some k) : steps (ks.map kdOf) i = lnexts i (kdOf k) := steps_good (fit_good h) (by rw [List.getElem?_map, hk]; rfl)
theorem Shp.first {ks : List Rk} (s : Shp ks) (h : AllFit ks) {p t : Nat} (hr : 1 < t) (e : edge (ks.map kdOf) p t) : 1 ≤ p := by
  refine Classical.byContradiction fun c => ?_
  have : p = 0 := by omega
  subst this
  have e2 := e.2
  rw [step_of h s.s0] at e2
  simp [kdOf, lnexts] at e2
  omega
theorem Shp.back {ks : List Rk} (s : Shp ks) (h : AllFit ks) {i t : Nat} (ht : t ∈ steps (ks.map kdOf) i) (hb : t ≤ i) : t = 1 ∧ 2 ≤ i := by
  have il : i < ks.length := by
    refine Classical.byContradiction fun c => ?_
    rw [steps_out (by rw [List.length_map]; omega)] at ht
    cases ht
  obtain ⟨k, hk⟩ : ∃ k, ks[i]? = some k := ⟨_, List.getElem?_eq_getElem il⟩
  rw [step_of h hk] at ht
  cases k with
  | set => simp [kdOf, lnexts] at ht; omega
  | mark => simp [kdOf, lnexts] at ht; omega
  | test l t' to =>
    have := s.ts i l t' to hk
    simp [kdOf, lnexts] at ht
    omega
  | jump l to =>
    obtain ⟨rfl, q⟩ := s.jp i l to hk
    simp [kdOf, lnexts] at ht
    exact ⟨ht, q⟩
  | retx => simp [kdOf, lnexts] at ht
  | rety => simp [kdOf, lnexts] at ht
  | fail => simp [kdOf, lnexts] at ht
theorem Shp.backOk {ks : List Rk} (s : Shp ks) (h : AllFit ks) {U : List Key} {L : List (Option (List Key))} {res : List (Option (List Nat))} (f : Flo (ks.map kdOf) (fun i => [Sum.inl ((i : Nat) : Int)]) U (edge (ks.map kdOf)) L) (sr : StandR L res) {i : Nat} (il : i < ks.length) : BackOk ks res i := by
  intro t ht hb
  obtain ⟨rfl, h2⟩ := s.back h ht hb
  refine ⟨s.s1, fun l hl => ?_⟩
  obtain ⟨s1, s2⟩ := sr.2 i
  obtain ⟨o, ho⟩ : ∃ o, L[i]? = some o := ⟨_, List.getElem?_eq_getElem (by rw [f.len, List.length_map]; exact il)⟩
  cases o with
  | none => rw [s1 ho] at hl; cases hl
  | some S =>
    obtain ⟨m, m1, _, _, m4⟩ := s2 S ho
    rw [m1] at hl
    cases hl
    refine List.mem_append_left _ ((m4 1).mpr ?_)
    exact flow_has f (x := Sum.inl ((1 : Nat) : Int)) (r := 1) (by simp) (fun p t hr _ e => s.first h hr e) i (by omega) (by rw [List.length_map]; exact il) S ho
theorem Shp.noSet {ks : List Rk} (s : Shp ks) {a : Nat} (h : ks[a]? = some .mark) : NoSet ks a := by
  intro x hx hs
  by_cases c : 2 ≤ x
  · exact (s.s2 x _ c hs).1 rfl
  · rcases (show x = 0 ∨ x = 1 by omega) with rfl | rfl
    · have : a = 0 := by omega
      subst this
      rw [hs] at h; cases h
    · have := s.s1
      rw [hs] at this; cases this
/-- rows that go on lead to the next -/
theorem flow_on {ks : List Rk} (h : AllFit ks) {th : Nat → List Key} {U : List Key} {L : List (Option (List Key))} (f : Flo (ks.map kdOf) th U (edge (ks.map kdOf)) L) (h0 : L[0]? = some (some [])) {e : Nat} (he : e < ks.length) (hl : ∀ i k, i < e → ks[i]? = some k → k.last = false) :
    ∀ t, t ≤ e → ∃ S, L[t]? = some (some S)
  | 0, _ => ⟨[], h0⟩
  | t + 1, ht => by
    obtain ⟨S, hS⟩ := flow_on h f h0 he hl t (by omega)
    obtain ⟨o, ho⟩ : ∃ o, L[t + 1]? = some o := ⟨_, List.getElem?_eq_getElem (by rw [f.len, List.length_map]; omega)⟩
    cases o with
    | some S => exact ⟨S, ho⟩
    | none =>
      obtain ⟨k, hk⟩ : ∃ k, ks[t]? = some k := ⟨_, List.getElem?_eq_getElem (by omega)⟩
      have kl := hl t k (by omega) hk
      have st : t + 1 ∈ steps (ks.map kdOf) t := by
        rw [step_of h hk]
        cases k <;> simp [Rk.last] at kl <;> simp [kdOf, lnexts]
      have := (f.pre (t + 1) (by omega) (by rw [List.length_map]; omega)).1 ho t ⟨by omega, st⟩
      rw [this] at hS
      cases hS
/-- what the rows give -/
def valK (ks : List Rk) (i : Nat) : List Key := match ks[i]? with
  | some k => k.vals.map Sum.inr
  | none => []
@[irreducible] def wfWrong (C : Addr) : WF := fun _ ds _ Q => ∃ ks : List Rk, ds = [uD C (ks.map rowD)] ∧ (∀ k ∈ ks, k.ok) ∧ 1 ≤ ks.length ∧ ks.length < 64 ∧
  ((∃ (at_ : Nat) (k : Rk), ks[at_]? = some k ∧ fitsB ks.length at_ k = false ∧ (∀ i k, i < at_ → ks[i]? = some k → fitsB ks.length i k = true) ∧ Q (.sh (.int at_))) ∨
  (AllFit ks ∧ ∃ p q : Int, ways (ks.map kdOf) = .tup [.int p, .int q] ∧
    (((64 < p ∨ 4000 < q) ∧ Q (.sh (.int (-1)))) ∨
     (p ≤ 64 ∧ q ≤ 4000 ∧ Shp ks ∧ (((∀ i : Nat, ks[i]? ≠ some .rety) ∧ Q (.sh .non)) ∨ (∃ e : Nat, ks[e]? = some .rety ∧ (∀ i k, i < e → ks[i]? = some k → k.last = false) ∧ Q (.sh (.int e))))))))
section
variable {P : Program} {w : World} {K : PySem.W.Frag} {mg : Str → Option Value} {base : Heap} {C S : Addr} {aL aC aR aH : Addr}
theorem ok_wrong_at {f : Addr} {fd : FuncData} (T : Txu K mg [C] [S] aL aC aR aH) (F : Fun K "wrong_at" "wrong_at" s_wrong_at f fd)
    {f1 : Addr} {d1 : FuncData} (F_front_fits : FnG P w K mg base 9 f1 d1 ["unit"] (spV K (wfFront C))) (G_front_fits : Glob K mg "front_fits" f1 d1 ["unit"])
    {f2 : Addr} {d2 : FuncData} (F_row_fits : FnG P w K mg base 9 f2 d2 ["unit", "at"] (spV K (wfRowFits C))) (G_row_fits : Glob K mg "row_fits" f2 d2 ["unit", "at"])
    {f3 : Addr} {d3 : FuncData} (F_count_ways : FnG P w K mg base 2 f3 d3 ["unit"] (spV K (wfCount [C]))) (G_count_ways : Glob K mg "count_ways" f3 d3 ["unit"])
    {f4 : Addr} {d4 : FuncData} (F_standing_ahead : FnG P w K mg base 4 f4 d4 ["unit"] (spV K (wfStand [C]))) (G_standing_ahead : Glob K mg "standing_ahead" f4 d4 ["unit"])
    {f5 : Addr} {d5 : FuncData} (F_told_ahead : FnG P w K mg base 3 f5 d5 ["unit", "things"] (spV K (wfTold [C]))) (G_told_ahead : Glob K mg "told_ahead" f5 d5 ["unit", "things"])
    {f6 : Addr} {d6 : FuncData} (F_values_by : FnG P w K mg base 2 f6 d6 ["unit", "at"] (spV K (wfVals C))) (G_values_by : Glob K mg "values_by" f6 d6 ["unit", "at"])
    {f7 : Addr} {d7 : FuncData} (F_place_fits : FnG P w K mg base 6 f7 d7 ["unit", "at", "standing", "given"] (spV K (wfPlace C))) (G_place_fits : Glob K mg "place_fits" f7 d7 ["unit", "at", "standing", "given"]) : FnG P w K mg base 10 f fd ["unit"] (spV K (wfWrong C )) := by
  refine def_ok F sc_wrong_at (fun R ds Xn Q' h => ?_) fun R cdv A outer s H E hg hr hp => ⟨_, _, (b_cons (s_if (t_not (t_tru (v_call F_front_fits G_front_fits hg (hr.mono (by decide)) hp (a_cons (v_var 0) a_nil))))
  (b_one (s_ret (v_neg v_int)))
  b_nil)
  (b_frz 5 (b_frz 4 (b_cons (s_for (passes_of rfl) rfl (i_rng1 T.n_range (v_b1 cr_lenA unw_len T.n_len PySem.boot_len (v_fld T.at_rows (v_var 0)))) (g_name 1 sc_wrong_at.nd)
  (b_one (s_if (t_not (t_tru (v_call F_row_fits G_row_fits hg (hr.mono (by decide)) hp (a_cons (v_var 0) (a_cons (v_var 1) a_nil)))))
  (b_one (s_retV 1))
  b_nil)))
  (b_cons (s_asgG (v_call F_count_ways G_count_ways hg (hr.mono (by decide)) hp (a_cons (v_var 0) a_nil)) (g_tup rfl (gs_cons 2 sc_wrong_at.nd (gs_cons 3 sc_wrong_at.nd gs_nil))))
  (b_cons (s_if (t_bool (w_or (t_cmp c_gt (v_var 2) (v_gintE T.g_MOST_WAYS)) (w_or1 (t_cmp c_gt (v_var 3) (v_gintE T.g_MOST_FAILING_WAYS)))))
  (b_one (s_ret (v_neg v_int)))
  b_nil)
  (b_cons (s_set 4 sc_wrong_at.nd (v_call F_standing_ahead G_standing_ahead hg (hr.mono (by decide)) hp (a_cons (v_var 0) a_nil)))
  (b_cons (s_set 5 sc_wrong_at.nd (v_call F_told_ahead G_told_ahead hg (hr.mono (by decide)) hp (a_cons (v_var 0) (a_cons (v_lc rfl sc_wrong_at.nd (i_rng1 T.n_range (v_b1 cr_lenA unw_len T.n_len PySem.boot_len (v_fld T.at_rows (v_var 0)))) (own := [("at", 1)]) rfl (fun _ _ _ _ _ => (g_name 1 sc_wrong_at.nd)) (fun _ _ _ _ _ => ts_nil) (fun _ _ _ _ _ => (v_call F_values_by G_values_by hg (hr.mono (by decide)) passN (a_cons (v_var 0) (a_cons (v_var 1) a_nil))))) a_nil))))
  (b_frz 5 (b_frz 4 (b_cons (s_for (passes_of rfl) rfl (i_rng1 T.n_range (v_b1 cr_lenA unw_len T.n_len PySem.boot_len (v_fld T.at_rows (v_var 0)))) (g_name 1 sc_wrong_at.nd)
  (b_frz 5 (b_frz 4 (b_one (s_if (t_not (t_tru (v_call F_place_fits G_place_fits hg (hr.mono (by decide)) hp (a_cons (v_var 0) (a_cons (v_var 1) (a_cons (v_var 4) (a_cons (v_var 5) a_nil)))))))
  (b_one (s_retV 1))
  b_nil)))))
  (b_one (s_ret v_non))))))))))))), fun ds Xn Q' h => ?_⟩
  · unfold wfWrong at h
    obtain ⟨ks, rfl, _⟩ := h
    rfl
  · unfold wfWrong at h
    obtain ⟨ks, rfl, hok, hn0, hn1, hcase⟩ := h
    have hC : C ∈ [C] := by simp
    clear hg hr hp T F
    have ml : (ks.map rowD).length = ks.length := by simp
    walk_at "u"
    refine ⟨_, rfl, by omega, by omega, ?_⟩
    walk_at "u"
    refine forW_ind (fun ds env => ∃ (j m : Nat) (s1 : Slot), ds = rgs j m ∧ j + m = ks.length ∧ env = [.sh (uD C (ks.map rowD)), s1, .un, .un, .un, .un] ∧ ∀ i k, i < j → ks[i]? = some k → fitsB ks.length i k = true) ?_ ?_ ⟨0, ks.length, _, by rw [← rngD_rgs, ml]; rfl, by omega, rfl, fun i k h => by omega⟩
    rotate_left
    · rintro d ds env ⟨j, m, s1, e1, hm, rfl, hf⟩ ih
      cases m with
      | zero => cases e1
      | succ m =>
      obtain ⟨rfl, rfl⟩ := List.cons.inj e1
      obtain ⟨k, hk⟩ : ∃ k, ks[j]? = some k := ⟨_, List.getElem?_eq_getElem (by omega)⟩
      walk_at "u"
      refine ⟨ks, k, j, rfl, hk, hok k (List.mem_of_getElem? hk), by omega, ?_⟩
      cases hb : fitsB ks.length j k with
      | true =>
        walk_at "u"
        refine ih _ ⟨j + 1, m, _, rfl, by omega, rfl, fun i k' hi hk' => ?_⟩
        by_cases c : i = j
        · subst c
          rw [hk] at hk'
          cases hk'
          exact hb
        · exact hf i k' (by omega) hk'
      | false =>
        walk_at "u"
        rcases hcase with ⟨at_, k', hk', hbad, hgood, hq⟩ | ⟨hall, _⟩
        · have : at_ = j := by
            rcases Nat.lt_trichotomy at_ j with c | c | c
            · rw [hf at_ k' c hk'] at hbad; cases hbad
            · exact c
            · rw [hgood j k c hk] at hb; cases hb
          subst this
          exact hq
        · rw [hall j k hk] at hb; cases hb
    rintro env ⟨j, m, s1, e1, hm, rfl, hf⟩
    cases m with
    | succ m => cases e1
    | zero =>
    obtain rfl : j = ks.length := by omega
    obtain ⟨hall, p, q, hw, hcase⟩ : AllFit ks ∧ ∃ p q : Int, ways (ks.map kdOf) = .tup [.int p, .int q] ∧ (((64 < p ∨ 4000 < q) ∧ Q' (.sh (.int (-1)))) ∨
     (p ≤ 64 ∧ q ≤ 4000 ∧ Shp ks ∧ (((∀ i : Nat, ks[i]? ≠ some .rety) ∧ Q' (.sh .non)) ∨ (∃ e : Nat, ks[e]? = some .rety ∧ (∀ i k, i < e → ks[i]? = some k → k.last = false) ∧ Q' (.sh (.int e)))))) := by
      rcases hcase with ⟨at_, k', hk', hbad, _⟩ | h
      · rw [hf at_ k' (List.getElem?_eq_some_iff.mp hk').1 hk'] at hbad; cases hbad
      · exact h
    walk_at "u"
    refine ⟨_, ks.map kdOf, rfl, fit_unit hall, fit_good hall, by rw [List.length_map]; omega, by rw [List.length_map]; omega, ?_⟩
    rw [hw]
    rcases hcase with ⟨hbig, hq⟩ | ⟨hp, hq', sh, hcase⟩
    · by_cases c : 64 < p
      · walk_at "u"
        exact hq
      · have c2 : 4000 < q := hbig.resolve_left c
        walk_at "u"
        exact hq
    walk_at "u"
    refine ⟨_, ks.map kdOf, rfl, fit_unit hall, fit_good hall, by rw [List.length_map]; omega, by rw [List.length_map]; omega, fun Ls res fl h0 sr => ?_⟩
    have rl : res.length = ks.length := by rw [sr.1, fl.len, List.length_map]
    walk_at "w"
    refine ⟨hC, ?_⟩
    walk_at "w"
    refine ⟨by omega, by omega, ?_⟩
    have lr : rngD 0 ((ks.map rowD).length : Int).toNat = rgs 0 ks.length := by rw [ml, ← rngD_rgs]; rfl
    rw [lr]
    refine ⟨line_le (by rw [← rgs_map]; simp; omega), ?_⟩
    refine lcW_ind (fun ds acc => ∃ (dn tl : List Rk), ds = rgs dn.length tl.length ∧ ks = dn ++ tl ∧ acc = dn.map fun k => D.lst (k.vals.map D.str)) ?_ ?_ ⟨[], ks, rfl, rfl, rfl⟩
    rotate_left
    · rintro d ds acc ⟨dn, tl, e1, e2, rfl⟩ ih
      cases tl with
      | nil => cases e1
      | cons k tl =>
      obtain ⟨rfl, rfl⟩ := List.cons.inj e1
      walk_at "u"
      refine ⟨ks, k, dn.length, rfl, by rw [e2]; simp, ?_⟩
      walk_at "u"
      exact ih _ ⟨dn ++ [k], tl, by simp, by rw [e2]; simp, by simp⟩
    rintro acc ⟨dn, tl, e1, e2, rfl⟩
    cases tl with
    | cons k tl => cases e1
    | nil =>
    rw [List.append_nil] at e2
    subst e2
    walk_at "w"
    refine ⟨_, ks.map kdOf, _, valK ks, [Sum.inr "x"], rfl, fit_unit hall, fit_good hall, by rw [List.length_map]; omega, by rw [List.length_map]; omega, by decide, fun i hi => ?_, fun L fg g0 => ?_⟩
    · rw [List.length_map] at hi
      obtain ⟨k, hk⟩ : ∃ k, ks[i]? = some k := ⟨_, List.getElem?_eq_getElem hi⟩
      have e : valK ks i = k.vals.map Sum.inr := by unfold valK; rw [hk]
      rw [e]
      refine ⟨by rw [List.getElem?_map, hk, List.map_map]; rfl, ?_, fun x hx => ?_⟩
      · cases k <;> simp [Rk.vals]
      · cases k <;> simp [Rk.vals] at hx ⊢
        exact hx
    have Ll : L.length = ks.length := by rw [fg.len, List.length_map]
    walk_at "w"
    refine ⟨hC, ?_⟩
    walk_at "w"
    refine ⟨by omega, by omega, ?_⟩
    rw [lr]
    have readsOk : ∀ (j : Nat) (k : Rk) (S : List Key), ks[j]? = some k → k ≠ .rety → L[j]? = some (some S) → (k.reads.all fun s => kmem (.inr s) S) = true := fun j k S hk ne hS => by
      cases k with
      | retx =>
        have j0 : 0 < j := by
          refine Classical.byContradiction fun c => ?_
          have : j = 0 := by omega
          subst this
          have := sh.s0
          rw [hk] at this; cases this
        have := flow_has fg (x := Sum.inr "x") (r := 0) (by unfold valK; rw [sh.s0]; simp [Rk.vals]) (fun p t _ _ _ => Nat.zero_le p) j j0 (by rw [List.length_map]; exact (List.getElem?_eq_some_iff.mp hk).1) S hS
        show (kmem (.inr "x") S && true) = true
        rw [kmem_iff.mpr this]
        rfl
      | rety => exact absurd rfl ne
      | _ => rfl
    refine forW_ind (fun ds env => ∃ (j m : Nat) (s1 : Slot), ds = rgs j m ∧ j + m = ks.length ∧ env = [.sh (uD C (ks.map rowD)), s1, .sh (.int p), .sh (.int q), .sh (.lst (res.map encS)), .sh (.lst (L.map enc))] ∧ ∀ e : Nat, ks[e]? = some .rety → (∀ i k, i < e → ks[i]? = some k → k.last = false) → j ≤ e) ?_ ?_ ⟨0, ks.length, _, rfl, by omega, rfl, fun e _ _ => Nat.zero_le e⟩
    · rintro env ⟨j, m, s1, e1, hm, rfl, hy⟩
      cases m with
      | succ m => cases e1
      | zero =>
      walk_at "u"
      rcases hcase with ⟨_, hq⟩ | ⟨e, h1, h2, h3⟩
      · exact hq
      · have := hy e h1 h2
        have := (List.getElem?_eq_some_iff.mp h1).1
        omega
    · rintro d ds env ⟨j, m, s1, e1, hm, rfl, hy⟩ ih
      cases m with
      | zero => cases e1
      | succ m =>
      obtain ⟨rfl, rfl⟩ := List.cons.inj e1
      obtain ⟨k, hk⟩ : ∃ k, ks[j]? = some k := ⟨_, List.getElem?_eq_getElem (by omega)⟩
      walk_at "u"
      have jl : j < ks.length := by omega
      have hns : k = .mark → NoSet ks j := fun c => sh.noSet (by rw [← c]; exact hk)
      have hbk := sh.backOk hall fl sr jl
      have hcalm := sh.calm k (List.mem_of_getElem? hk)
      by_cases c : k = .rety
      · obtain ⟨e, h1, h2, h3⟩ := hcase.resolve_left fun h => h.1 j (by rw [← c]; exact hk)
        have je : j = e := by
          have := hy e h1 h2
          refine Classical.byContradiction fun z => ?_
          have q := h2 j k (by omega) hk
          rw [c] at q
          cases q
        subst je
        refine ⟨ks, k, res, L, j, rfl, hk, hcalm, rl, Ll, hall, hn1, hns, hbk, false, fun S hS => ?_, fun hN => ?_, ?_⟩
        · subst c
          show (kmem (.inr "y") S && true) = false
          rw [Bool.and_true]
          cases hb : kmem (.inr "y") S with
          | false => rfl
          | true =>
            have := (fg.sub j S hS).2 _ (kmem_iff.mp hb)
            simp at this
            exact absurd this (by decide)
        · obtain ⟨S, hS⟩ := flow_on hall fg g0 jl h2 j (Nat.le_refl _)
          rw [hN] at hS
          cases hS
        · walk_at "u"
          exact h3
      · refine ⟨ks, k, res, L, j, rfl, hk, hcalm, rl, Ll, hall, hn1, hns, hbk, true, fun S hS => readsOk j k S hk c hS, fun _ => rfl, ?_⟩
        walk_at "u"
        refine ih _ ⟨j + 1, m, _, rfl, by omega, rfl, fun e h1 h2 => ?_⟩
        have := hy e h1 h2
        refine Classical.byContradiction fun z => c ?_
        have : j = e := by omega
        subst this
        rw [hk] at h1
        exact Option.some.inj h1
end
end K54

set_option Elab.async false
set_option maxRecDepth 100000
set_option linter.all false
set_option maxHeartbeats 4000000
namespace K54
open PySem L2 VH K50
local macro_rules | `(tactic| walk_at "w") => `(tactic| conv => whnf)
local macro_rules | `(tactic| walk_at "s") => `(tactic| first | assumption | decide | omega | rfl | exact (show (0 : Int) < _ from by decide) | exact ⟨by decide, by decide⟩ | exact nats_flat | exact Or.inl (Or.inl ⟨by decide, by decide⟩) | exact Or.inl (Or.inr ⟨by decide, by decide⟩) | exact Nat.le_of_ble_eq_true rfl | exact line_le (by simp; omega) | exact line_lt (by simp; omega) | exact line_lt (by omega) | exact line_le (by omega))
local macro_rules | `(tactic| walk_at "v") => `(tactic| first
  | (refine And.intro (by walk_at "s") ?_)
  | (refine gOpt_in (by assumption) ?_)
  | (refine dec_yes (dec_t (by first | assumption | omega)) ?_)
  | (refine dec_no (dec_f (by first | assumption | omega)) ?_)
  | (refine dec_yes (dec_nt (by first | assumption | omega)) ?_)
  | (refine dec_no (dec_nf (by first | assumption | omega)) ?_))
local macro_rules | `(tactic| walk_at "u") => `(tactic| (conv => whnf); repeat ((walk_at "v"); (conv => whnf)))

--opts {"reprx": True, "callx": {("_law_verdict", "check_unit(unit)"): "wfCheck CB C"}}
abbrev s_check_unit : Stmt := topS 73
theorem sc_check_unit : FnScope ["unit", "at"] ["unit"] (defScope s_check_unit) := ⟨rfl, rfl, rfl, by decide +kernel, rfl, by decide +kernel, by decide +kernel⟩
abbrev s_is_good_unit : Stmt := topS 74
theorem sc_is_good_unit : FnScope ["unit"] ["unit"] (defScope s_is_good_unit) := ⟨rfl, rfl, rfl, by decide +kernel, rfl, by decide +kernel, by decide +kernel⟩
abbrev s__law_verdict : Stmt := topS 82
theorem sc__law_verdict : FnScope ["rows", "unit", "told", "e"] ["rows"] (defScope s__law_verdict) := ⟨rfl, rfl, rfl, by decide +kernel, rfl, by decide +kernel, by decide +kernel⟩
abbrev s__law_spoilt : Stmt := topS 83
theorem sc__law_spoilt : FnScope ["rows", "at", "row"] ["rows", "at", "row"] (defScope s__law_spoilt) := ⟨rfl, rfl, rfl, by decide +kernel, rfl, by decide +kernel, by decide +kernel⟩
theorem wrong_mono {C : Addr} {R R' : Res} {ds : List D} {X X' : Exn → Prop} {Q Q' : Rs → Prop} (h : wfWrong C R ds X Q) (m : ∀ r, Q r → Q' r) : wfWrong C R' ds X' Q' := by
  unfold wfWrong at h ⊢
  obtain ⟨ks, h1, h2, h3, h4, h5⟩ := h
  refine ⟨ks, h1, h2, h3, h4, h5.imp (fun ⟨a, k, x1, x2, x3, q⟩ => ⟨a, k, x1, x2, x3, m _ q⟩) fun ⟨x1, p, q, x2, x3⟩ => ⟨x1, p, q, x2, x3.imp (fun ⟨y, z⟩ => ⟨y, m _ z⟩) fun ⟨y1, y2, y3, y4⟩ => ⟨y1, y2, y3, y4.imp (fun ⟨a, b⟩ => ⟨a, m _ b⟩) fun ⟨e, a, b, c⟩ => ⟨e, a, b, m _ c⟩⟩⟩⟩
theorem wrong_ds {C : Addr} {R : Res} {ds : List D} {X : Exn → Prop} {Q : Rs → Prop} (h : wfWrong C R ds X Q) : ∃ ks : List Rk, ds = [uD C (ks.map rowD)] := by
  unfold wfWrong at h
  obtain ⟨ks, h1, _⟩ := h
  exact ⟨ks, h1⟩
/-- what wrong_at says of the law's unit -/
def wfCheck (CB C : Addr) : WF := fun R ds Xn Q => wfWrong C R ds Xn fun r => (r = .sh .non ∧ Q (.sh .non)) ∨ ∃ i : Int, r = .sh (.int i) ∧ Xn ⟨CB, some [("at", .int i)]⟩
def wfGoodU (C : Addr) : WF := fun R ds Xn Q => wfWrong C R ds Xn fun r => (r = .sh .non ∧ Q (.sh (.bl true))) ∨ ∃ i : Int, r = .sh (.int i) ∧ Q (.sh (.bl false))
def wfVerd (C : Addr) : WF := fun R ds Xn Q => ∃ rows, ds = [.lst rows] ∧ wfWrong C R [uD C rows] NoX fun r => (r = .sh .non ∧ Q (.sh .non)) ∨ ∃ i : Int, r = .sh (.int i) ∧ Q (.sh (.int i))
def wfSpoilt : WF := fun _ ds _ Q => ∃ (rows : List D) (at_ : Nat) (row : D), ds = [.lst rows, .int at_, row] ∧ at_ < rows.length ∧ rows.length < 1000 ∧ Q (.nw (rows.set at_ row))
theorem cut_take {rows : List D} {n : Nat} (h : n ≤ rows.length) : cutD rows none (some (n : Int)) = rows.take n := by
  unfold cutD
  rw [HT.sIx_none, HT.sIx_nat, Nat.min_eq_left h]
  rfl
theorem cut_drop {rows : List D} {n : Nat} (h : n ≤ rows.length) : cutD rows (some (n : Int)) none = rows.drop n := by
  unfold cutD
  rw [HT.sIx_none, HT.sIx_nat, Nat.min_eq_left h]
  exact List.take_of_length_le (by simp)
section
variable {P : Program} {w : World} {K : PySem.W.Frag} {mg : Str → Option Value} {base : Heap} {C S CB : Addr} {aL aC aR aH : Addr}
theorem ok_check_unit {f : Addr} {fd : FuncData} (T : Txu K mg [C] [S] aL aC aR aH) (F : Fun K "check_unit" "check_unit" s_check_unit f fd)
    {f1 : Addr} {d1 : FuncData} (F_wrong_at : FnG P w K mg base 10 f1 d1 ["unit"] (spV K (wfWrong C))) (G_wrong_at : Glob K mg "wrong_at" f1 d1 ["unit"])
    (X_BadUnit : ExG P w K mg base "BadUnit" CB "at") : FnG P w K mg base 11 f fd ["unit"] (spV K (wfCheck CB C )) := by
  refine def_ok F sc_check_unit (fun R ds Xn Q' h => ?_) fun R cdv A outer s H E hg hr hp => ⟨_, _, (b_cons (s_set 1 sc_check_unit.nd (v_call F_wrong_at G_wrong_at hg (hr.mono (by decide)) hp (a_cons (v_var 0) a_nil)))
  (b_one (s_if (t_cmp c_isNot (v_var 1) v_non)
  (b_frz 1 (b_one (s_raise X_BadUnit (hr.mono (by decide)) (v_var 1))))
  b_nil))), fun ds Xn Q' h => ?_⟩
  · obtain ⟨ks, rfl⟩ := wrong_ds h
    rfl
  · obtain ⟨ks, rfl⟩ := wrong_ds h
    clear hg hr hp T F
    walk_at "u"
    refine wrong_mono h fun r hr => ?_
    rcases hr with ⟨rfl, q⟩ | ⟨i, rfl, q⟩
    · walk_at "u"
      exact q
    · walk_at "u"
      exact q
theorem ok_is_good_unit {f : Addr} {fd : FuncData} (T : Txu K mg [C] [S] aL aC aR aH) (F : Fun K "is_good_unit" "is_good_unit" s_is_good_unit f fd)
    {f1 : Addr} {d1 : FuncData} (F_wrong_at : FnG P w K mg base 10 f1 d1 ["unit"] (spV K (wfWrong C))) (G_wrong_at : Glob K mg "wrong_at" f1 d1 ["unit"]) : FnG P w K mg base 11 f fd ["unit"] (spV K (wfGoodU C )) := by
  refine def_ok F sc_is_good_unit (fun R ds Xn Q' h => ?_) fun R cdv A outer s H E hg hr hp => ⟨_, _, (b_one (s_ret (v_cmp c_is (v_call F_wrong_at G_wrong_at hg (hr.mono (by decide)) hp (a_cons (v_var 0) a_nil)) v_non))), fun ds Xn Q' h => ?_⟩
  · obtain ⟨ks, rfl⟩ := wrong_ds h
    rfl
  · obtain ⟨ks, rfl⟩ := wrong_ds h
    clear hg hr hp T F
    walk_at "u"
    refine wrong_mono h fun r hr => ?_
    rcases hr with ⟨rfl, q⟩ | ⟨i, rfl, q⟩
    · walk_at "u"
      exact q
    · walk_at "u"
      exact q
theorem ok__law_verdict {f : Addr} {fd : FuncData} (T : Txu K mg [C] [S] aL aC aR aH) (F : Fun K "_law_verdict" "_law_verdict" s__law_verdict f fd)
    {f1 : Addr} {d1 : FuncData} (F__law_unit_of : FnG P w K mg base 3 f1 d1 ["rows"] (spV K (wfUnitOf C))) (G__law_unit_of : Glob K mg "_law_unit_of" f1 d1 ["rows"])
    {f2 : Addr} {d2 : FuncData} (F_check_unit : FnG P w K mg base 11 f2 d2 ["unit"] (spV K (wfCheck CB C))) (G_check_unit : Glob K mg "check_unit" f2 d2 ["unit"])
    (X_BadUnit : ExG P w K mg base "BadUnit" CB "at") : FnG P w K mg base 12 f fd ["rows"] (spV K (wfVerd C )) := by
  refine def_ok F sc__law_verdict (fun R ds Xn Q' h => ?_) fun R cdv A outer s H E hg hr hp => ⟨_, _, (b_cons (s_set 1 sc__law_verdict.nd (v_call F__law_unit_of G__law_unit_of hg (hr.mono (by decide)) hp (a_cons (v_var 0) a_nil)))
  (b_cons (s_try 3 X_BadUnit sc__law_verdict.nd (fun E' pn xe hx => (s_set 2 sc__law_verdict.nd (te := tCall (spV K (wfCheck CB C)) [] E' (tCons (tVar 1) tNil)) (we := wCall ((wfCheck CB C) R) (wCons (wVar 1) wNil)) (v_call (wf := (wfCheck CB C)) (tA := (tCons (tVar 1) tNil)) (wA := (wCons (wVar 1) wNil)) F_check_unit G_check_unit hg (hr.mono (by decide)) hx (a_cons (v_var 1) a_nil)))))
  (b_cons (s_if (t_cmp c_isNot (v_var 2) v_non)
  (b_one (s_ret v_str))
  b_nil)
  (b_one (s_ret v_non))))), fun ds Xn Q' h => ?_⟩
  · obtain ⟨rows, rfl, _⟩ := h
    rfl
  · obtain ⟨rows, rfl, h⟩ := h
    clear hg hr hp T F
    walk_at "u"
    refine ⟨rows, rfl, ?_⟩
    walk_at "u"
    refine wrong_mono h fun r hr => ?_
    rcases hr with ⟨rfl, q⟩ | ⟨i, rfl, q⟩
    · refine .inl ⟨rfl, ?_⟩
      walk_at "u"
      exact q
    · exact .inr ⟨i, rfl, _, rfl, q⟩
theorem ok__law_spoilt {f : Addr} {fd : FuncData} (T : Txu K mg [C] [S] aL aC aR aH) (F : Fun K "_law_spoilt" "_law_spoilt" s__law_spoilt f fd) : FnG P w K mg base 1 f fd ["rows", "at", "row"] (spV K (wfSpoilt )) := by
  refine def_ok F sc__law_spoilt (fun R ds Xn Q' h => ?_) fun R cdv A outer s H E hg hr hp => ⟨_, _, (b_one (s_ret (v_add (v_add (v_sl (v_var 0) o_none (o_some (v_var 1))) (v_lst (a_cons (v_var 2) a_nil))) (v_sl (v_var 0) (o_some (v_add (v_var 1) v_int)) o_none)))), fun ds Xn Q' h => ?_⟩
  · obtain ⟨rows, at_, row, rfl, _⟩ := h
    rfl
  · obtain ⟨rows, at_, row, rfl, h1, h2, hq⟩ := h
    clear hg hr hp T F
    walk_at "w"
    rw [cut_take (by omega)]
    refine And.intro (line_le (by simp)) ?_
    walk_at "w"
    refine And.intro (line_le (by rw [List.length_take, List.length_singleton]; omega)) ?_
    walk_at "w"
    rw [show ((at_ : Nat) : Int) + 1 = ((at_ + 1 : Nat) : Int) from rfl, cut_drop (by omega)]
    refine And.intro (line_le (by rw [List.length_append, List.length_take, List.length_singleton, List.length_drop]; omega)) ?_
    refine eqQ hq ?_
    rw [List.set_eq_take_append_cons_drop, if_pos h1]
    simp
end
end K54

set_option Elab.async false
set_option maxRecDepth 100000
set_option linter.all false
set_option maxHeartbeats 4000000
namespace K54
open PySem L2 VH K50
local macro_rules | `(tactic| walk_at "w") => `(tactic| conv => whnf)
local macro_rules | `(tactic| walk_at "s") => `(tactic| first | assumption | decide | omega | rfl | exact (show (0 : Int) < _ from by decide) | exact ⟨by decide, by decide⟩ | exact nats_flat | exact Or.inl (Or.inl ⟨by decide, by decide⟩) | exact Or.inl (Or.inr ⟨by decide, by decide⟩) | exact Nat.le_of_ble_eq_true rfl | exact line_le (by simp; omega) | exact line_lt (by simp; omega) | exact line_lt (by omega) | exact line_le (by omega))
local macro_rules | `(tactic| walk_at "v") => `(tactic| first
  | (refine And.intro (by walk_at "s") ?_)
  | (refine gOpt_in (by assumption) ?_)
  | (refine dec_yes (dec_t (by first | assumption | omega)) ?_)
  | (refine dec_no (dec_f (by first | assumption | omega)) ?_)
  | (refine dec_yes (dec_nt (by first | assumption | omega)) ?_)
  | (refine dec_no (dec_nf (by first | assumption | omega)) ?_))
local macro_rules | `(tactic| walk_at "u") => `(tactic| (conv => whnf); repeat ((walk_at "v"); (conv => whnf)))

--opts {}
abbrev s__law_pick : Stmt := topS 78
theorem sc__law_pick : FnScope ["well", "things"] ["well", "things"] (defScope s__law_pick) := ⟨rfl, rfl, rfl, by decide +kernel, rfl, by decide +kernel, by decide +kernel⟩
abbrev s__law_chain : Stmt := topS 79
theorem sc__law_chain : FnScope ["many", "first", "last", "figures", "asked", "figure", "end", "rows"] ["many", "first", "last"] (defScope s__law_chain) := ⟨rfl, rfl, rfl, by decide +kernel, rfl, by decide +kernel, by decide +kernel⟩
def wfPick : WF := fun R ds _ Q => ∃ p q th, R = wellRes p q ∧ ds = [.ref p, .lst th] ∧ th ≠ [] ∧ th.length < 1000 ∧ ∀ d ∈ th, Q (.sh d)
/-- the rows of a chain, the first one at n -/
def chT (t : Tm) (e : Nat) : Nat → List Nat → List Rk
  | _, [] => []
  | n, f :: fs => if f = 1 then .test 2 t e :: .test 3 t ((n + 2 : Nat) : Int) :: chT t e (n + 2) fs else .test 3 t ((n + 1 : Nat) : Int) :: chT t e (n + 1) fs
theorem chT_kd {t : Tm} {e : Nat} : ∀ {fs : List Nat} {n : Nat}, (chT t e n fs).map kdOf = exT e n fs
  | [], _ => rfl
  | f :: fs, n => by
    unfold chT exT
    split
    · rw [List.map_cons, List.map_cons, chT_kd]; rfl
    · rw [List.map_cons, chT_kd]; rfl
theorem chT_len {t : Tm} {e : Nat} {fs : List Nat} {n : Nat} (h : ∀ f ∈ fs, f < 2) : (chT t e n fs).length = exLen fs := by
  rw [← List.length_map (f := kdOf), chT_kd, exT_len h]
theorem vl_pow : ∀ (fs : List Nat) (m : Nat), 2 ^ fs.length * m ≤ vl fs m
  | [], m => by simp [vl]
  | f :: fs, m => by
    have := vl_pow fs m
    show 2 ^ (fs.length + 1) * m ≤ 2 * vl fs m + f
    rw [Nat.pow_succ, Nat.mul_comm _ 2, Nat.mul_assoc]
    omega
theorem figs_few {fs : List Nat} {m : Nat} (h : vl fs 1 = m) (hm : m < 2 ^ 14) : fs.length ≤ 13 := by
  refine Classical.byContradiction fun c => ?_
  have h1 := vl_pow fs 1
  have h2 : 2 ^ 14 ≤ 2 ^ fs.length := Nat.pow_le_pow_right (by decide) (by omega)
  omega
theorem exLen_le : ∀ {fs : List Nat}, (∀ f ∈ fs, f < 2) → exLen fs ≤ 2 * fs.length
  | [], _ => by simp [exLen]
  | f :: fs, h => by
    have := exLen_le (fs := fs) fun g hg => h g (by simp [hg])
    have := h f (by simp)
    simp [exLen]
    omega
theorem ex_sum : ∀ fs : List Nat, (fs.map fun f => ((1 + f : Nat) : Int)).sum = (exLen fs : Int)
  | [] => rfl
  | f :: fs => by
    rw [List.map_cons, List.sum_cons, ex_sum fs]
    simp [exLen]
def wfChain : WF := fun _ ds _ Q => ∃ (many first : Nat) (last : D), ds = [.int many, .int first, last] ∧ 1 ≤ many ∧ many < 2 ^ 14 ∧ first ≤ 100 ∧
  ∀ figs : List Nat, (∀ f ∈ figs, f < 2) → vl figs 1 = many → figs.length ≤ 13 → Q (.nw ((chT (.num figs.length) (first + exLen figs) first figs).map rowD ++ [last]))
section
variable {P : Program} {w : World} {K : PySem.W.Frag} {mg : Str → Option Value} {base : Heap} {C S CB : Addr} {aL aC aR aH : Addr}
theorem ok__law_pick {f : Addr} {fd : FuncData} (T : Txu K mg [C] [S] aL aC aR aH) (F : Fun K "_law_pick" "_law_pick" s__law_pick f fd)
    {f1 : Addr} {d1 : FuncData} (F__law_draw : FnG P w K mg base 1 f1 d1 ["well", "many"] (spV K (wfDraw))) (G__law_draw : Glob K mg "_law_draw" f1 d1 ["well", "many"]) : FnG P w K mg base 2 f fd ["well", "things"] (spV K (wfPick )) := by
  refine def_ok F sc__law_pick (fun R ds Xn Q' h => ?_) fun R cdv A outer s H E hg hr hp => ⟨_, _, (b_one (s_ret (v_ix hr (v_var 1) (v_call F__law_draw G__law_draw hg (hr.mono (by decide)) hp (a_cons (v_var 0) (a_cons (v_b1 cr_lenA unw_len T.n_len PySem.boot_len (v_var 1)) a_nil)))))), fun ds Xn Q' h => ?_⟩
  · obtain ⟨p, q, th, rfl, rfl, _⟩ := h
    rfl
  · obtain ⟨p, q, th, rfl, rfl, h0, h1, hq⟩ := h
    clear hg hr hp T F
    have h0 : 0 < th.length := by cases th <;> simp at h0 ⊢
    walk_at "u"
    refine ⟨p, q, _, rfl, rfl, by omega, by omega, fun m m0 m1 => ?_⟩
    walk_at "u"
    obtain ⟨k, rfl⟩ := Int.eq_ofNat_of_zero_le m0
    refine ix_in rfl (List.getElem?_eq_getElem (by omega)) ?_
    exact hq _ (List.getElem_mem _)
theorem ok__law_chain {f : Addr} {fd : FuncData} (T : Txu K mg [C] [S] aL aC aR aH) (F : Fun K "_law_chain" "_law_chain" s__law_chain f fd) : FnG P w K mg base 1 f fd ["many", "first", "last"] (spV K (wfChain )) := by
  refine def_ok F sc__law_chain (fun R ds Xn Q' h => ?_) fun R cdv A outer s H E hg hr hp => ⟨_, _, (b_cons (s_set 3 sc__law_chain.nd (v_lst a_nil))
  (b_cons (s_while (passes_of rfl) (t_cmp c_gt (v_var 0) v_int)
  (b_cons (s_app 3 (v_mod (v_var 0) v_int))
  (b_one (s_set 0 sc__law_chain.nd (v_fdiv (v_var 0) v_int)))))
  (b_cons (s_set 4 sc__law_chain.nd (v_tup (a_cons v_str (a_cons v_str (a_cons (v_tup (a_cons v_str (a_cons v_str (a_cons v_int a_nil)))) (a_cons (v_tup (a_cons v_str (a_cons (v_b1 cr_lenA unw_len T.n_len PySem.boot_len (v_var 3)) a_nil))) a_nil))))))
  (b_frz 3 (b_cons (s_set 6 sc__law_chain.nd (v_add (v_var 1) (v_b1 (cr_sum rfl) unw_sum T.n_sum (by decide +kernel) (v_lc rfl sc__law_chain.nd (i_seq (v_var 3)) (own := [("figure", 5)]) rfl (fun _ _ _ _ _ => (g_name 5 sc__law_chain.nd)) (fun _ _ _ _ _ => ts_nil) (fun _ _ _ _ _ => (v_add v_int (v_var 5)))))))
  (b_cons (s_set 7 sc__law_chain.nd (v_lst a_nil))
  (b_frz 3 (b_cons (s_for (passes_of rfl) rfl (i_seq (v_var 3)) (g_name 5 sc__law_chain.nd)
  (b_cons (s_if (t_cmp (c_eq hr) (v_var 5) v_int)
  (b_one (s_app 7 (v_tup (a_cons v_str (a_cons v_int (a_cons (v_var 4) (a_cons (v_var 6) a_nil)))))))
  b_nil)
  (b_one (s_app 7 (v_tup (a_cons v_str (a_cons v_int (a_cons (v_var 4) (a_cons (v_add (v_add (v_var 1) (v_b1 cr_lenA unw_len T.n_len PySem.boot_len (v_var 7))) v_int) a_nil)))))))))
  (b_one (s_ret (v_add (v_var 7) (v_lst (a_cons (v_var 2) a_nil))))))))))))), fun ds Xn Q' h => ?_⟩
  · obtain ⟨many, first, last, rfl, _⟩ := h
    rfl
  · obtain ⟨many, first, last, rfl, hm0, hm1, hf0, hq⟩ := h
    clear hg hr hp T F
    walk_at "u"
    refine ⟨fun m env => ∃ figs x s4 s5 s6 s7, env = [.sh (.int (x : Nat)), .sh (.int (first : Nat)), .sh last, .ow (nats figs), s4, s5, s6, s7] ∧ vl figs x = many ∧ 1 ≤ x ∧ x ≤ m ∧ figs.length + x ≤ many ∧ ∀ f ∈ figs, f < 2,
      ⟨many, [], many, _, _, _, _, rfl, rfl, hm0, Nat.le_refl _, by simp, by simp⟩, ?_⟩
    rintro m env ⟨figs, x, s4, s5, s6, s7, rfl, hv, hx0, hx1, hx2, hf⟩
    have nl := nats_len (a := figs)
    by_cases hx : 1 < x
    · walk_at "u"
      exact ⟨x / 2, by omega, figs ++ [x % 2], x / 2, _, _, _, _, by rw [nats_append]; rfl, by rw [vl_snoc]; exact hv, by omega, Nat.le_refl _, by simp; omega, fun f h => by rcases List.mem_append.mp h with h | h; exact hf f h; simp at h; omega⟩
    · obtain rfl : x = 1 := by omega
      have few := figs_few hv hm1
      have big := exLen_le hf
      walk_at "u"
      refine lcW_ind (fun ds acc => ∃ tl dn, ds = nats tl ∧ acc = nats (dn.map (1 + ·)) ∧ dn ++ tl = figs) ?_ ?_ ⟨figs, [], rfl, rfl, rfl⟩
      rotate_left
      · rintro d ds acc ⟨tl, dn, e2, rfl, e3⟩ ih
        cases tl with
        | nil => cases e2
        | cons t tl =>
          cases e2
          walk_at "u"
          exact ih _ ⟨tl, dn ++ [t], rfl, by rw [List.map_append, nats_append]; rfl, by rw [← e3]; simp⟩
      rintro acc ⟨tl, dn, e2, rfl, e3⟩
      cases tl with
      | cons t tl => cases e2
      | nil =>
      obtain rfl : dn = figs := by simpa using e3
      have hi : D.ints (nats (dn.map (1 + ·))) = some (dn.map fun f => ((1 + f : Nat) : Int)) := by
        rw [← ints_map]
        congr 1
        simp [nats]
      walk_at "u"
      rw [ex_sum, ← Int.natCast_add, nl]
      refine forW_ind (fun ts env => ∃ (tl : List Nat) (xs : List Rk) (s0 s5 : Slot), ts = nats tl ∧ env = [s0, .sh (.int (first : Nat)), .sh last, .sh (.lst (nats dn)), .sh (cmpD (.num dn.length)), s5, .sh (.int ((first + exLen dn : Nat) : Int)), .ow (xs.map rowD)] ∧
        xs ++ chT (.num dn.length) (first + exLen dn) (first + xs.length) tl = chT (.num dn.length) (first + exLen dn) first dn ∧ (∀ f ∈ tl, f < 2) ∧ xs.length + exLen tl = exLen dn) ?_ ?_
        ⟨dn, [], _, _, rfl, rfl, rfl, hf, by simp⟩
      · rintro env ⟨tl, xs, s0, s5, e2, rfl, hxs, _, hlen⟩
        cases tl with
        | cons t tl => cases e2
        | nil =>
          have hxs : xs = chT (.num dn.length) (first + exLen dn) first dn := by simpa [chT] using hxs
          have xl : xs.length = exLen dn := by simpa [exLen] using hlen
          have xl2 : (xs.map rowD).length = exLen dn := by simp [xl]
          walk_at "u"
          rw [hxs]
          exact hq _ hf hv few
      · rintro d ds env ⟨tl, xs, s0, s5, e2, rfl, hxs, hf2, hlen⟩ ih
        cases tl with
        | nil => cases e2
        | cons t tl =>
          cases e2
          have ht := hf2 t (by simp)
          have hf2' : ∀ u ∈ tl, u < 2 := fun u h => hf2 u (by simp [h])
          simp only [exLen] at hlen
          have xl2 : (xs.map rowD).length = xs.length := by simp
          by_cases c : t = 1
          · subst c
            rw [chT, if_pos rfl] at hxs
            walk_at "u"
            have he : (xs ++ [Rk.test 2 (.num dn.length) ((first + exLen dn : Nat) : Int), Rk.test 3 (.num dn.length) ((first + xs.length + 2 : Nat) : Int)]).map rowD = xs.map rowD ++ [D.tup [.str "test", .int 2, cmpD (.num dn.length), .int ((first + exLen dn : Nat) : Int)]] ++
                [D.tup [.str "test", .int 3, cmpD (.num dn.length), .int ((first : Int) + ((xs.map rowD ++ [D.tup [.str "test", .int 2, cmpD (.num dn.length), .int ((first + exLen dn : Nat) : Int)]]).length : Int) + 1)]] := by
              rw [show (first : Int) + ((xs.map rowD ++ [D.tup [.str "test", .int 2, cmpD (.num dn.length), .int ((first + exLen dn : Nat) : Int)]]).length : Int) + 1 = ((first + xs.length + 2 : Nat) : Int) by rw [List.length_append, List.length_map, List.length_singleton]; omega]
              rw [List.map_append, List.append_assoc]
              rfl
            refine ih _ ⟨tl, xs ++ [.test 2 (.num dn.length) ((first + exLen dn : Nat) : Int), .test 3 (.num dn.length) ((first + xs.length + 2 : Nat) : Int)], _, _, rfl, by rw [he]; rfl, ?_, hf2', by simp; omega⟩
            rw [← hxs, List.append_assoc, List.length_append, ← Nat.add_assoc]
            rfl
          · obtain rfl : t = 0 := by omega
            rw [chT, if_neg (by omega)] at hxs
            walk_at "u"
            have he : (xs ++ [Rk.test 3 (.num dn.length) ((first + xs.length + 1 : Nat) : Int)]).map rowD = xs.map rowD ++ [D.tup [.str "test", .int 3, cmpD (.num dn.length), .int ((first : Int) + ((xs.map rowD).length : Int) + 1)]] := by
              rw [show (first : Int) + ((xs.map rowD).length : Int) + 1 = ((first + xs.length + 1 : Nat) : Int) by rw [List.length_map]; omega]
              rw [List.map_append]
              rfl
            refine ih _ ⟨tl, xs ++ [.test 3 (.num dn.length) ((first + xs.length + 1 : Nat) : Int)], _, _, rfl, by rw [he]; rfl, ?_, hf2', by simp; omega⟩
            rw [← hxs, List.append_assoc, List.length_append, ← Nat.add_assoc]
            rfl
end
end K54

set_option Elab.async false
set_option maxRecDepth 100000
set_option linter.all false
set_option maxHeartbeats 4000000
namespace K54
open PySem L2 VH K50
local macro_rules | `(tactic| walk_at "w") => `(tactic| conv => whnf)
local macro_rules | `(tactic| walk_at "s") => `(tactic| first | assumption | decide | omega | rfl | exact (show (0 : Int) < _ from by decide) | exact ⟨by decide, by decide⟩ | exact nats_flat | exact Or.inl (Or.inl ⟨by decide, by decide⟩) | exact Or.inl (Or.inr ⟨by decide, by decide⟩) | exact Nat.le_of_ble_eq_true rfl | exact line_le (by simp; omega) | exact line_lt (by simp; omega) | exact line_lt (by omega) | exact line_le (by omega))
local macro_rules | `(tactic| walk_at "v") => `(tactic| first
  | (refine And.intro (by walk_at "s") ?_)
  | (refine gOpt_in (by assumption) ?_)
  | (refine dec_yes (dec_t (by first | assumption | omega)) ?_)
  | (refine dec_no (dec_f (by first | assumption | omega)) ?_)
  | (refine dec_yes (dec_nt (by first | assumption | omega)) ?_)
  | (refine dec_no (dec_nf (by first | assumption | omega)) ?_))
local macro_rules | `(tactic| walk_at "u") => `(tactic| (conv => whnf); repeat ((walk_at "v"); (conv => whnf)))

--opts {"cut": [("_law_rows", "if _law_draw(well, 3) == 0:")]}
abbrev s__law_rows : Stmt := topS 80
theorem sc__law_rows : FnScope ["well", "most", "fails", "last", "n", "rows", "one", "two"] ["well", "most", "fails"] (defScope s__law_rows) := ⟨rfl, rfl, rfl, by decide +kernel, rfl, by decide +kernel, by decide +kernel⟩
def lastR : Bool → Rk
  | true => .jump 7 1
  | false => .retx
def at2 (f1 : List Nat) : Nat := 3 + (exLen f1 + 1)
/-- the law's rows -/
def rowsR (f1 : List Nat) (j : Bool) (f2 : List Nat) : List Rk := [.set, .mark, .test 4 .len ((at2 f1 : Nat) : Int)] ++ (chT (.num f1.length) (3 + exLen f1) 3 f1 ++ [lastR j]) ++ (chT (.num f2.length) (at2 f1 + exLen f2) (at2 f1) f2 ++ [.fail])
structure Figs (f : List Nat) (m : Nat) : Prop where
  two : ∀ x ∈ f, x < 2
  val : vl f 1 = m
  few : f.length ≤ 13
def wfRowsL : WF := fun R ds _ Q => ∃ p q, ∃ (most fails : Nat), R = wellRes p q ∧ ds = [.ref p, .int most, .int fails] ∧ 1 ≤ most ∧ most < 2 ^ 14 ∧ 1 ≤ fails ∧ fails < 2 ^ 14 ∧
  ∀ f1 j f2, Figs f1 most → Figs f2 fails → Q (.nw ((rowsR f1 j f2).map rowD))
section
variable {P : Program} {w : World} {K : PySem.W.Frag} {mg : Str → Option Value} {base : Heap} {C S CB : Addr} {aL aC aR aH : Addr}
theorem ok__law_rows {f : Addr} {fd : FuncData} (T : Txu K mg [C] [S] aL aC aR aH) (F : Fun K "_law_rows" "_law_rows" s__law_rows f fd)
    {f1 : Addr} {d1 : FuncData} (F__law_draw : FnG P w K mg base 1 f1 d1 ["well", "many"] (spV K (wfDraw))) (G__law_draw : Glob K mg "_law_draw" f1 d1 ["well", "many"])
    {f2 : Addr} {d2 : FuncData} (F__law_chain : FnG P w K mg base 1 f2 d2 ["many", "first", "last"] (spV K (wfChain))) (G__law_chain : Glob K mg "_law_chain" f2 d2 ["many", "first", "last"]) : FnG P w K mg base 2 f fd ["well", "most", "fails"] (spV K (wfRowsL )) := by
  refine def_ok F sc__law_rows (fun R ds Xn Q' h => ?_) fun R cdv A outer s H E hg hr hp => ⟨_, _, (b_cons (s_set 3 sc__law_rows.nd (v_tup (a_cons v_str (a_cons v_int (a_cons (v_tup (a_cons v_str (a_cons v_str (a_cons v_int a_nil)))) a_nil)))))
  (b_cut (s_if (t_cmp (c_eq hr) (v_call F__law_draw G__law_draw hg (hr.mono (by decide)) hp (a_cons (v_var 0) (a_cons v_int a_nil))) v_int)
  (b_one (s_set 3 sc__law_rows.nd (v_tup (a_cons v_str (a_cons v_int (a_cons v_int a_nil))))))
  b_nil)
  (b_cons (s_set 4 sc__law_rows.nd (v_tup (a_cons v_str (a_cons v_str (a_cons v_int a_nil)))))
  (b_cons (s_set 5 sc__law_rows.nd (v_lst (a_cons (v_tup (a_cons v_str (a_cons v_int (a_cons v_str (a_cons (v_var 4) a_nil))))) (a_cons (v_tup (a_cons v_str (a_cons v_int (a_cons (v_tup a_nil) (a_cons (v_tup (a_cons (v_tup (a_cons v_str (a_cons v_int a_nil))) (a_cons (v_var 4) a_nil))) (a_cons (v_tup a_nil) (a_cons (v_tup a_nil) a_nil))))))) a_nil))))
  (b_cons (s_set 6 sc__law_rows.nd (v_call F__law_chain G__law_chain hg (hr.mono (by decide)) hp (a_cons (v_var 1) (a_cons v_int (a_cons (v_var 3) a_nil)))))
  (b_cons (s_set 7 sc__law_rows.nd (v_call F__law_chain G__law_chain hg (hr.mono (by decide)) hp (a_cons (v_var 2) (a_cons (v_add v_int (v_b1 cr_lenA unw_len T.n_len PySem.boot_len (v_var 6))) (a_cons (v_tup (a_cons v_str (a_cons v_int a_nil))) a_nil)))))
  (b_cons (s_app 5 (v_tup (a_cons v_str (a_cons v_int (a_cons (v_tup (a_cons v_str (a_cons v_str (a_cons (v_var 4) (a_cons (v_tup (a_cons v_str (a_cons v_str (a_cons v_int a_nil)))) a_nil))))) (a_cons (v_add v_int (v_b1 cr_lenA unw_len T.n_len PySem.boot_len (v_var 6))) a_nil))))))
  (b_one (s_ret (v_add (v_add (v_var 5) (v_var 6)) (v_var 7))))))))))), fun ds Xn Q' h => ?_⟩
  · obtain ⟨p, q, most, fails, rfl, rfl, _⟩ := h
    rfl
  · obtain ⟨p, q, most, fails, rfl, rfl, m0, m1, n0, n1, hq⟩ := h
    clear hg hr hp T F
    walk_at "u"
    refine ⟨fun env => ∃ j, env = [.sh (.ref p), .sh (.int (most : Nat)), .sh (.int (fails : Nat)), .sh (rowD (lastR j)), .un, .un, .un, .un], ?_, ?_⟩
    · walk_at "u"
      refine ⟨p, q, _, rfl, rfl, by decide, by decide, fun d d0 d1 => ?_⟩
      walk_at "u"
      refine dec_in (fun _ => ?_) fun _ => ?_
      · walk_at "u"
        exact ⟨true, rfl⟩
      · walk_at "u"
        exact ⟨false, rfl⟩
    rintro env ⟨j, rfl⟩
    walk_at "u"
    refine ⟨most, 3, _, rfl, m0, m1, by decide, fun f1 h1 h2 h3 => ?_⟩
    have l1 := chT_len (t := .num f1.length) (e := 3 + exLen f1) (n := 3) h1
    have b1 := exLen_le h1
    have fl : (3 : Int) + (((chT (.num f1.length) (3 + exLen f1) 3 f1).map rowD ++ [rowD (lastR j)]).length : Int) = ((at2 f1 : Nat) : Int) := by
      rw [List.length_append, List.length_map, l1, List.length_singleton]
      unfold at2
      omega
    walk_at "u"
    refine ⟨fails, at2 f1, _, by rw [fl], n0, n1, by unfold at2; omega, fun f2 g1 g2 g3 => ?_⟩
    have l2 := chT_len (t := .num f2.length) (e := at2 f1 + exLen f2) (n := at2 f1) g1
    have b2 := exLen_le g1
    walk_at "u"
    rw [fl]
    refine eqQ (hq f1 j f2 ⟨h1, h2, h3⟩ ⟨g1, g2, g3⟩) ?_
    unfold rowsR
    rw [List.map_append, List.map_append, List.map_append, List.map_append]
    rfl
end
theorem chT_get {t : Tm} {e : Nat} : ∀ {fs : List Nat} {n i : Nat} {k : Rk}, (∀ f ∈ fs, f < 2) → n + exLen fs = e → (chT t e n fs)[i]? = some k → ∃ l to : Nat, k = .test l t ((to : Nat) : Int) ∧ 1 ≤ l ∧ n + i < to ∧ to ≤ e
  | [], _, _, _, _, _, h => by simp [chT] at h
  | f :: fs, n, i, k, hb, el, h => by
    have hf := hb f (by simp)
    have hr : ∀ g ∈ fs, g < 2 := fun g hg => hb g (by simp [hg])
    unfold exLen at el
    unfold chT at h
    split at h
    · match i with
      | 0 => cases h; exact ⟨_, e, rfl, by decide, by omega, Nat.le_refl _⟩
      | 1 => cases h; exact ⟨_, _, rfl, by decide, by omega, by omega⟩
      | i + 2 =>
        obtain ⟨l, to, h1, h2, h3, h4⟩ := chT_get (i := i) hr (by omega) h
        exact ⟨l, to, h1, h2, by omega, h4⟩
    · match i with
      | 0 => cases h; exact ⟨_, _, rfl, by decide, by omega, by omega⟩
      | i + 1 =>
        obtain ⟨l, to, h1, h2, h3, h4⟩ := chT_get (i := i) hr (by omega) h
        exact ⟨l, to, h1, h2, by omega, h4⟩
section
variable {f1 f2 : List Nat} {m r : Nat} {j : Bool}
theorem rows_len (h1 : Figs f1 m) (h2 : Figs f2 r) : (rowsR f1 j f2).length = at2 f1 + exLen f2 + 1 := by
  unfold rowsR
  simp [chT_len h1.two, chT_len h2.two, at2]
  omega
theorem rows_get (h1 : Figs f1 m) (h2 : Figs f2 r) {i : Nat} {k : Rk} (h : (rowsR f1 j f2)[i]? = some k) : (i = 0 ∧ k = .set) ∨ (i = 1 ∧ k = .mark) ∨
    (2 ≤ i ∧ i + 1 < (rowsR f1 j f2).length ∧ i ≠ 3 + exLen f1 ∧ ∃ (l : Nat) (t : Tm) (to : Nat), k = .test l t ((to : Nat) : Int) ∧ 1 ≤ l ∧ t.ok ∧ t.names = [] ∧ i < to ∧ to < (rowsR f1 j f2).length) ∨ (i = 3 + exLen f1 ∧ k = lastR j) ∨ (i + 1 = (rowsR f1 j f2).length ∧ i ≠ 3 + exLen f1 ∧ k = .fail) := by
  have len := rows_len (j := j) h1 h2
  have c1 := chT_len (t := .num f1.length) (e := 3 + exLen f1) (n := 3) h1.two
  have c2 := chT_len (t := .num f2.length) (e := at2 f1 + exLen f2) (n := at2 f1) h2.two
  have few1 := h1.few
  have few2 := h2.few
  rw [len]
  have a2 : at2 f1 = 4 + exLen f1 := by unfold at2; omega
  by_cases p1 : i < 3
  · match i, p1 with
    | 0, _ => cases h; exact .inl ⟨rfl, rfl⟩
    | 1, _ => cases h; exact .inr (.inl ⟨rfl, rfl⟩)
    | 2, _ => cases h; exact .inr (.inr (.inl ⟨by omega, by omega, by omega, 4, .len, at2 f1, rfl, by decide, trivial, rfl, by omega, by omega⟩))
  · unfold rowsR at h
    by_cases p2 : i < at2 f1
    · rw [List.getElem?_append_left (by simp [c1]; omega), List.getElem?_append_right (by simp; omega)] at h
      simp only [List.length_cons, List.length_nil] at h
      by_cases p3 : i - 3 < exLen f1
      · rw [List.getElem?_append_left (by rw [c1]; exact p3)] at h
        obtain ⟨l, to, e1, e2, e3, e4⟩ := chT_get h1.two rfl h
        exact .inr (.inr (.inl ⟨by omega, by omega, by omega, l, _, to, e1, e2, (show f1.length ≤ 1000 by omega), rfl, by omega, by omega⟩))
      · rw [List.getElem?_append_right (by rw [c1]; omega), c1] at h
        have : i - 3 - exLen f1 = 0 := by omega
        rw [show i - (0 + 1 + 1 + 1) - exLen f1 = 0 by omega] at h
        cases h
        exact .inr (.inr (.inr (.inl ⟨by omega, rfl⟩)))
    · rw [List.getElem?_append_right (by simp [c1]; omega)] at h
      have e5 : ([Rk.set, Rk.mark, Rk.test 4 Tm.len ((at2 f1 : Nat) : Int)] ++ (chT (.num f1.length) (3 + exLen f1) 3 f1 ++ [lastR j])).length = at2 f1 := by simp [c1]; omega
      rw [e5] at h
      by_cases p3 : i - at2 f1 < exLen f2
      · rw [List.getElem?_append_left (by rw [c2]; exact p3)] at h
        obtain ⟨l, to, e1, e2, e3, e4⟩ := chT_get h2.two rfl h
        exact .inr (.inr (.inl ⟨by omega, by omega, by omega, l, _, to, e1, e2, (show f2.length ≤ 1000 by omega), rfl, by omega, by omega⟩))
      · rw [List.getElem?_append_right (by rw [c2]; omega), c2] at h
        cases z : i - at2 f1 - exLen f2 with
        | zero =>
          rw [z] at h
          cases h
          exact .inr (.inr (.inr (.inr ⟨by omega, by omega, rfl⟩)))
        | succ y => rw [z] at h; simp at h
end
end K54

set_option Elab.async false
set_option maxRecDepth 100000
set_option linter.all false
set_option maxHeartbeats 4000000
namespace K54
open PySem L2 VH K50
local macro_rules | `(tactic| walk_at "w") => `(tactic| conv => whnf)
local macro_rules | `(tactic| walk_at "s") => `(tactic| first | assumption | decide | omega | rfl | exact (show (0 : Int) < _ from by decide) | exact ⟨by decide, by decide⟩ | exact nats_flat | exact Or.inl (Or.inl ⟨by decide, by decide⟩) | exact Or.inl (Or.inr ⟨by decide, by decide⟩) | exact Nat.le_of_ble_eq_true rfl | exact line_le (by simp; omega) | exact line_lt (by simp; omega) | exact line_lt (by omega) | exact line_le (by omega))
local macro_rules | `(tactic| walk_at "v") => `(tactic| first
  | (refine And.intro (by walk_at "s") ?_)
  | (refine gOpt_in (by assumption) ?_)
  | (refine dec_yes (dec_t (by first | assumption | omega)) ?_)
  | (refine dec_no (dec_f (by first | assumption | omega)) ?_)
  | (refine dec_yes (dec_nt (by first | assumption | omega)) ?_)
  | (refine dec_no (dec_nf (by first | assumption | omega)) ?_))
local macro_rules | `(tactic| walk_at "u") => `(tactic| (conv => whnf); repeat ((walk_at "v"); (conv => whnf)))

--opts {}
theorem exVal2 {ks : List Kd} {b : Kd → Nat} {c size : Nat} {rest : List Kd} (hb : ∀ t, b (.test t) = 0) : ∀ {fs : List Nat} {pre : List Kd}, (∀ f ∈ fs, f < 2) → ks = pre ++ (exT size pre.length fs ++ rest) → pre.length + exLen fs = size → size < ks.length →
    W ks b c pre.length = vl fs 1 * W ks b c size
  | [], pre, _, e, el, _ => by
    rw [← el]
    simp [exLen, vl]
  | f :: fs, pre, h, e, el, len => by
    have hf := h f (by simp)
    have hr : ∀ g ∈ fs, g < 2 := fun g hg => h g (by simp [hg])
    unfold exLen at el
    by_cases f1 : f = 1
    · subst f1
      have e2 : ks = (pre ++ [Kd.test size, Kd.test (pre.length + 2)]) ++ (exT size (pre ++ [Kd.test size, Kd.test (pre.length + 2)]).length fs ++ rest) := by
        rw [e, exT, if_pos rfl]; simp
      have ih := exVal2 (b := b) (c := c) hb hr e2 (by simp; omega) len
      have g1 : ks[pre.length]? = some (.test size) := by rw [e2]; simp
      have g2 : ks[pre.length + 1]? = some (.test (pre.length + 2)) := by
        rw [e2, List.getElem?_append_left (by simp), List.getElem?_append_right (by omega)]
        simp
      have l2 : (pre ++ [Kd.test size, Kd.test (pre.length + 2)]).length = pre.length + 2 := by simp
      rw [l2] at ih
      rw [W_eq (i := pre.length) (by omega), steps_of g1, at0, g1]
      have w2 : W ks b c (pre.length + 1) = 2 * W ks b c (pre.length + 2) := by
        rw [W_eq (by omega), steps_of g2, at0, g2]
        simp only [hb, nexts, if_pos (show pre.length + 1 + 1 < ks.length by omega), List.cons_append, List.nil_append, List.map_cons, List.map_nil, List.sum_cons, List.sum_nil]
        rw [if_neg (by omega)]
        show 0 + (W ks b c (pre.length + 2) + (W ks b c (pre.length + 2) + 0)) = _
        omega
      simp only [hb, nexts, if_pos (show pre.length + 1 < ks.length by omega), List.cons_append, List.nil_append, List.map_cons, List.map_nil, List.sum_cons, List.sum_nil]
      rw [if_neg (by omega), if_neg (by omega), w2, ih]
      show _ = (2 * vl fs 1 + 1) * _
      rw [Nat.add_mul, Nat.one_mul, Nat.mul_assoc]
      omega
    · have f0 : f = 0 := by omega
      subst f0
      have e2 : ks = (pre ++ [Kd.test (pre.length + 1)]) ++ (exT size (pre ++ [Kd.test (pre.length + 1)]).length fs ++ rest) := by
        rw [e, exT, if_neg (by omega)]; simp
      have ih := exVal2 (b := b) (c := c) hb hr e2 (by simp; omega) len
      have g1 : ks[pre.length]? = some (.test (pre.length + 1)) := by rw [e2]; simp
      have l2 : (pre ++ [Kd.test (pre.length + 1)]).length = pre.length + 1 := by simp
      rw [l2] at ih
      rw [W_eq (i := pre.length) (by omega), steps_of g1, at0, g1]
      simp only [hb, nexts, if_pos (show pre.length + 1 < ks.length by omega), List.cons_append, List.nil_append, List.map_cons, List.map_nil, List.sum_cons, List.sum_nil]
      rw [if_neg (by omega), ih]
      show _ = (2 * vl fs 1 + 0) * _
      rw [Nat.add_mul, Nat.zero_mul, Nat.mul_assoc]
      omega
section
variable {f1 f2 : List Nat} {m r : Nat} {j : Bool}
theorem at2_eq : at2 f1 = 4 + exLen f1 := by unfold at2; omega
theorem rows_ok (h1 : Figs f1 m) (h2 : Figs f2 r) : ∀ k ∈ rowsR f1 j f2, k.ok ∧ k.calm := fun k hk => by
  obtain ⟨i, hi⟩ := List.getElem?_of_mem hk
  rcases rows_get h1 h2 hi with ⟨_, rfl⟩ | ⟨_, rfl⟩ | ⟨_, _, _, l, t, to, rfl, e1, e2, e3, _⟩ | ⟨_, rfl⟩ | ⟨_, _, rfl⟩
  · exact ⟨trivial, trivial⟩
  · exact ⟨trivial, trivial⟩
  · exact ⟨⟨e1, e2⟩, e3⟩
  · cases j
    · exact ⟨trivial, trivial⟩
    · exact ⟨(by decide : 1 ≤ 7), trivial⟩
  · exact ⟨trivial, trivial⟩
theorem rows_fit (h1 : Figs f1 m) (h2 : Figs f2 r) : AllFit (rowsR f1 j f2) := fun i k hi => by
  have len := rows_len (j := j) h1 h2
  have a2 := at2_eq (f1 := f1)
  rcases rows_get h1 h2 hi with ⟨rfl, rfl⟩ | ⟨rfl, rfl⟩ | ⟨_, hl, _, l, t, to, rfl, e1, e2, e3, e4, e5⟩ | ⟨_, rfl⟩ | ⟨_, _, rfl⟩
  · unfold fitsB
    rw [if_neg (by omega)]
    rfl
  · unfold fitsB
    rw [if_neg (by omega)]
    rfl
  · unfold fitsB
    rw [if_neg (by omega)]
    simp [Rk.tgt, inB]
    omega
  · cases j
    · simp [fitsB, lastR, Rk.last, Rk.tgt]
    · simp [fitsB, lastR, Rk.last, Rk.tgt, inB]
      omega
  · simp [fitsB, Rk.last, Rk.tgt]
theorem rows_shp (h1 : Figs f1 m) (h2 : Figs f2 r) : Shp (rowsR f1 j f2) where
  s0 := rfl
  s1 := rfl
  s2 := fun i k hi hk => by
    rcases rows_get h1 h2 hk with ⟨rfl, _⟩ | ⟨rfl, _⟩ | ⟨_, _, _, l, t, to, rfl, _⟩ | ⟨_, rfl⟩ | ⟨_, _, rfl⟩
    · omega
    · omega
    · simp
    · cases j <;> simp [lastR]
    · simp
  calm := fun k hk => (rows_ok h1 h2 k hk).2
  ts := fun i l t to hk => by
    rcases rows_get h1 h2 hk with ⟨_, e⟩ | ⟨_, e⟩ | ⟨_, _, _, l, t, to, e, _, _, _, e4, _⟩ | ⟨_, e⟩ | ⟨_, _, e⟩
    · cases e
    · cases e
    · cases e; omega
    · cases j <;> cases e
    · cases e
  jp := fun i l to hk => by
    rcases rows_get h1 h2 hk with ⟨_, e⟩ | ⟨_, e⟩ | ⟨_, _, _, l, t, to, e, _⟩ | ⟨h, e⟩ | ⟨_, _, e⟩
    · cases e
    · cases e
    · cases e
    · cases j
      · cases e
      · cases e; exact ⟨rfl, by omega⟩
    · cases e
/-- the rows' kinds -/
theorem rows_kd : (rowsR f1 j f2).map kdOf = [.other, .other, .test (at2 f1)] ++ (exT (3 + exLen f1) 3 f1 ++ ([kdOf (lastR j)] ++ (exT (at2 f1 + exLen f2) (at2 f1) f2 ++ [.fail]))) := by
  unfold rowsR
  rw [List.map_append, List.map_append, List.map_append, List.map_append, chT_kd, chT_kd]
  simp [kdOf]
theorem rows_W (h1 : Figs f1 m) (h2 : Figs f2 r) {b : Kd → Nat} {c : Nat} (hb : ∀ t, b (.test t) = 0) (ho : b .other = 0) {x y : Nat} (hl : b (kdOf (lastR j)) + (if j = true then c else 0) = x) (hy : b .fail = y) :
    W ((rowsR f1 j f2).map kdOf) b c 0 = m * x + r * y := by
  have len : ((rowsR f1 j f2).map kdOf).length = at2 f1 + exLen f2 + 1 := by rw [List.length_map, rows_len h1 h2]
  have a2 := at2_eq (f1 := f1)
  have e1 := exT_len (size := 3 + exLen f1) (n := 3) h1.two
  have e2 := exT_len (size := at2 f1 + exLen f2) (n := at2 f1) h2.two
  have kd := rows_kd (f1 := f1) (f2 := f2) (j := j)
  generalize hks : (rowsR f1 j f2).map kdOf = ks at len kd ⊢
  have g0 : ks[0]? = some .other := by rw [kd]; rfl
  have g1 : ks[1]? = some .other := by rw [kd]; rfl
  have g2 : ks[2]? = some (.test (at2 f1)) := by rw [kd]; rfl
  have v1 := exVal2 (ks := ks) (b := b) (c := c) (size := 3 + exLen f1) hb (fs := f1) (pre := [.other, .other, .test (at2 f1)]) h1.two kd rfl (by omega)
  have kd2 : ks = ([.other, .other, .test (at2 f1)] ++ (exT (3 + exLen f1) 3 f1 ++ [kdOf (lastR j)])) ++ (exT (at2 f1 + exLen f2) (at2 f1) f2 ++ [.fail]) := by rw [kd]; simp
  have pl : ([Kd.other, Kd.other, Kd.test (at2 f1)] ++ (exT (3 + exLen f1) 3 f1 ++ [kdOf (lastR j)])).length = at2 f1 := by simp [e1]; omega
  have v2 := exVal2 (ks := ks) (b := b) (c := c) (size := at2 f1 + exLen f2) hb (fs := f2) (pre := [.other, .other, .test (at2 f1)] ++ (exT (3 + exLen f1) 3 f1 ++ [kdOf (lastR j)])) h2.two (by rw [pl]; exact kd2) (by rw [pl]) (by omega)
  rw [pl] at v2
  have gl : ks[3 + exLen f1]? = some (kdOf (lastR j)) := by
    rw [kd, List.getElem?_append_right (by simp)]
    simp only [List.length_cons, List.length_nil]
    rw [List.getElem?_append_right (by rw [e1]; omega), e1, show 3 + exLen f1 - (0 + 1 + 1 + 1) - exLen f1 = 0 by omega]
    rfl
  have gf : ks[at2 f1 + exLen f2]? = some .fail := by
    rw [kd2, List.getElem?_append_right (by rw [pl]; omega), pl, List.getElem?_append_right (by rw [e2]; omega), e2, show at2 f1 + exLen f2 - at2 f1 - exLen f2 = 0 by omega]
    rfl
  have w3 : W ks b c (3 + exLen f1) = x := by
    rw [W_eq (by omega), steps_of gl, at0, gl]
    cases j with
    | false => rw [← hl]; simp [lastR, kdOf, nexts]
    | true =>
      rw [← hl]
      simp only [lastR, kdOf, nexts, if_true]
      simp
  have wf : W ks b c (at2 f1 + exLen f2) = y := by
    rw [W_eq (by omega), steps_of gf, at0, gf, ← hy]
    simp [nexts]
  have w2 : W ks b c 2 = W ks b c 3 + W ks b c (at2 f1) := by
    rw [W_eq (by omega), steps_of g2, at0, g2]
    simp only [hb, nexts, if_pos (show 2 + 1 < ks.length by omega), List.cons_append, List.nil_append, List.map_cons, List.map_nil, List.sum_cons, List.sum_nil]
    rw [if_neg (by omega), if_neg (by omega)]
    show 0 + (W ks b c 3 + (W ks b c (at2 f1) + 0)) = _
    omega
  have w1 : W ks b c 1 = W ks b c 2 := by
    rw [W_eq (by omega), steps_of g1, at0, g1]
    simp [ho, nexts, show 1 + 1 < ks.length by omega]
  have w0 : W ks b c 0 = W ks b c 1 := by
    rw [W_eq (by omega), steps_of g0, at0, g0]
    simp [ho, nexts, show 0 + 1 < ks.length by omega]
  have v1 : W ks b c 3 = vl f1 1 * W ks b c (3 + exLen f1) := v1
  rw [w0, w1, w2, v1, v2, w3, wf, h1.val, h2.val]
theorem rows_ways (h1 : Figs f1 m) (h2 : Figs f2 r) : ways ((rowsR f1 j f2).map kdOf) = .tup [.int (min (m : Int) 65), .int (min (r : Int) 4001)] := by
  unfold ways
  rw [rows_W h1 h2 (b := bP) (c := 1) (x := 1) (y := 0) (fun _ => rfl) rfl (by cases j <;> rfl) rfl, rows_W h1 h2 (b := bF) (c := 0) (x := 0) (y := 1) (fun _ => rfl) rfl (by cases j <;> rfl) rfl]
  simp
end
end K54

set_option Elab.async false
set_option maxRecDepth 100000
set_option linter.all false
set_option maxHeartbeats 4000000
namespace K54
open PySem L2 VH K50
local macro_rules | `(tactic| walk_at "w") => `(tactic| conv => whnf)
local macro_rules | `(tactic| walk_at "s") => `(tactic| first | assumption | decide | omega | rfl | exact (show (0 : Int) < _ from by decide) | exact ⟨by decide, by decide⟩ | exact nats_flat | exact Or.inl (Or.inl ⟨by decide, by decide⟩) | exact Or.inl (Or.inr ⟨by decide, by decide⟩) | exact Nat.le_of_ble_eq_true rfl | exact line_le (by simp; omega) | exact line_lt (by simp; omega) | exact line_lt (by omega) | exact line_le (by omega))
local macro_rules | `(tactic| walk_at "v") => `(tactic| first
  | (refine And.intro (by walk_at "s") ?_)
  | (refine gOpt_in (by assumption) ?_)
  | (refine dec_yes (dec_t (by first | assumption | omega)) ?_)
  | (refine dec_no (dec_f (by first | assumption | omega)) ?_)
  | (refine dec_yes (dec_nt (by first | assumption | omega)) ?_)
  | (refine dec_no (dec_nf (by first | assumption | omega)) ?_))
local macro_rules | `(tactic| walk_at "u") => `(tactic| (conv => whnf); repeat ((walk_at "v"); (conv => whnf)))

--opts {"reprx": True, "cut": [("law", "if most > 64 or fails > 4000:"), ("law", "if _law_draw(well, 2) == 0 and repr(is_good_unit(_law_unit_of(rows))) != repr(due is None):"), ("law", "if repr(_law_verdict(rows)) != repr(due):"), ("law", "if repr(_law_verdict(_law_spoilt(rows, at, ('jump', 3, target)))) != repr(at):")]}
abbrev s_law : Stmt := topS 84
theorem sc_law : FnScope ["script", "well", "most", "fails", "rows", "due", "at", "target", "k", "ends", "end"] ["script"] (defScope s_law) := ⟨rfl, rfl, rfl, by decide +kernel, rfl, by decide +kernel, by decide +kernel⟩
section
variable {f1 f2 : List Nat} {m r : Nat} {j : Bool} {C : Addr} {R : Res} {X : Exn → Prop} {Q : Rs → Prop}
def big (m r : Nat) : Prop := 64 < m ∨ 4000 < r
theorem rows_small (h1 : Figs f1 m) (h2 : Figs f2 r) : 5 ≤ (rowsR f1 j f2).length ∧ (rowsR f1 j f2).length < 64 := by
  have := rows_len (j := j) h1 h2
  have := at2_eq (f1 := f1)
  have := exLen_le h1.two
  have := exLen_le h2.two
  have := h1.few
  have := h2.few
  omega
theorem wrong_rows (h1 : Figs f1 m) (h2 : Figs f2 r) (q1 : big m r → Q (.sh (.int (-1)))) (q2 : ¬ big m r → Q (.sh .non)) : wfWrong C R [uD C ((rowsR f1 j f2).map rowD)] X Q := by
  obtain ⟨n0, n1⟩ := rows_small (j := j) h1 h2
  unfold wfWrong
  refine ⟨rowsR f1 j f2, rfl, fun k hk => (rows_ok h1 h2 k hk).1, by omega, n1, .inr ⟨rows_fit h1 h2, _, _, rows_ways h1 h2, ?_⟩⟩
  by_cases b : big m r
  · refine .inl ⟨?_, q1 b⟩
    unfold big at b
    omega
  · have b' : ¬ (64 < m ∨ 4000 < r) := b
    refine .inr ⟨by omega, by omega, rows_shp h1 h2, .inl ⟨fun i hi => ?_, q2 b⟩⟩
    rcases rows_get h1 h2 hi with ⟨_, e⟩ | ⟨_, e⟩ | ⟨_, _, _, l, t, to, e, _⟩ | ⟨_, e⟩ | ⟨_, _, e⟩
    · cases e
    · cases e
    · cases e
    · cases j <;> cases e
    · cases e
theorem wrong_jump (h1 : Figs f1 m) (h2 : Figs f2 r) {a : Nat} {to : Int} (ha : a < (rowsR f1 j f2).length) (ht : to < 0 ∨ (rowsR f1 j f2).length ≤ to) (q : Q (.sh (.int (a : Nat)))) : wfWrong C R [uD C (((rowsR f1 j f2).set a (.jump 3 to)).map rowD)] X Q := by
  obtain ⟨n0, n1⟩ := rows_small (j := j) h1 h2
  unfold wfWrong
  refine ⟨_, rfl, fun k hk => ?_, by rw [List.length_set]; omega, by rw [List.length_set]; exact n1, .inl ⟨a, .jump 3 to, List.getElem?_set_self ha, ?_, fun i k hi hk => ?_, q⟩⟩
  · rcases List.mem_or_eq_of_mem_set hk with h | rfl
    · exact (rows_ok h1 h2 k h).1
    · exact (by decide : 1 ≤ 3)
  · simp [fitsB, Rk.last, Rk.tgt, inB]
    omega
  · rw [List.getElem?_set_ne (by omega)] at hk
    rw [List.length_set]
    exact rows_fit h1 h2 i k hk
theorem wrong_ret (h1 : Figs f1 m) (h2 : Figs f2 r) (q1 : big m r → Q (.sh (.int (-1)))) (q2 : ¬ big m r → Q (.sh (.int ((3 + exLen f1 : Nat) : Int)))) : wfWrong C R [uD C (((rowsR f1 false f2).set (3 + exLen f1) .rety).map rowD)] X Q := by
  obtain ⟨n0, n1⟩ := rows_small (j := false) h1 h2
  have len := rows_len (j := false) h1 h2
  have a2 := at2_eq (f1 := f1)
  have lt : 3 + exLen f1 < (rowsR f1 false f2).length := by omega
  obtain ⟨k0, hk0⟩ : ∃ k, (rowsR f1 false f2)[3 + exLen f1]? = some k := ⟨_, List.getElem?_eq_getElem lt⟩
  have kx : k0 = .retx := by
    rcases rows_get h1 h2 hk0 with ⟨e, _⟩ | ⟨e, _⟩ | ⟨_, _, ne, _⟩ | ⟨_, e⟩ | ⟨_, ne, _⟩
    · omega
    · omega
    · exact absurd rfl ne
    · exact e
    · exact absurd rfl ne
  subst kx
  have sh := rows_shp (j := false) h1 h2
  have get : ∀ i k, ((rowsR f1 false f2).set (3 + exLen f1) .rety)[i]? = some k → (i = 3 + exLen f1 ∧ k = .rety) ∨ (i ≠ 3 + exLen f1 ∧ (rowsR f1 false f2)[i]? = some k) := fun i k h => by
    by_cases c : i = 3 + exLen f1
    · subst c
      rw [List.getElem?_set_self lt] at h
      cases h
      exact .inl ⟨rfl, rfl⟩
    · rw [List.getElem?_set_ne (fun z => c z.symm)] at h
      exact .inr ⟨c, h⟩
  have kd : ((rowsR f1 false f2).set (3 + exLen f1) .rety).map kdOf = (rowsR f1 false f2).map kdOf := by
    rw [List.map_set]
    refine set_self ?_
    rw [List.getElem?_map, hk0]
    rfl
  unfold wfWrong
  refine ⟨_, rfl, fun k hk => ?_, by rw [List.length_set]; omega, by rw [List.length_set]; exact n1, .inr ⟨fun i k hk => ?_, _, _, by rw [kd]; exact rows_ways h1 h2, ?_⟩⟩
  · rcases List.mem_or_eq_of_mem_set hk with h | rfl
    · exact (rows_ok h1 h2 k h).1
    · trivial
  · rw [List.length_set]
    rcases get i k hk with ⟨rfl, rfl⟩ | ⟨_, h⟩
    · simp [fitsB, Rk.last, Rk.tgt]
    · exact rows_fit h1 h2 i k h
  · by_cases b : big m r
    · refine .inl ⟨?_, q1 b⟩
      unfold big at b
      omega
    · have b' : ¬ (64 < m ∨ 4000 < r) := b
      refine .inr ⟨by omega, by omega, ⟨?_, ?_, ?_, ?_, ?_, ?_⟩, .inr ⟨3 + exLen f1, List.getElem?_set_self lt, fun i k hi hk => ?_, q2 b⟩⟩
      · rw [List.getElem?_set_ne (by omega)]; exact sh.s0
      · rw [List.getElem?_set_ne (by omega)]; exact sh.s1
      · intro i k hi hk
        rcases get i k hk with ⟨_, rfl⟩ | ⟨_, h⟩
        · simp
        · exact sh.s2 i k hi h
      · intro k hk
        rcases List.mem_or_eq_of_mem_set hk with h | rfl
        · exact sh.calm k h
        · trivial
      · intro i l t to hk
        rcases get i _ hk with ⟨_, e⟩ | ⟨_, h⟩
        · cases e
        · exact sh.ts i l t to h
      · intro i l to hk
        rcases get i _ hk with ⟨_, e⟩ | ⟨_, h⟩
        · cases e
        · exact sh.jp i l to h
      · rcases get i k hk with ⟨e, _⟩ | ⟨_, h⟩
        · omega
        · rcases rows_get h1 h2 h with ⟨_, rfl⟩ | ⟨_, rfl⟩ | ⟨_, _, _, l, t, to, rfl, _⟩ | ⟨e, _⟩ | ⟨e, _, _⟩
          · rfl
          · rfl
          · rfl
          · omega
          · omega
end
theorem rok_tup2 {a b : Int} (ha : a.natAbs < 10 ^ 12) (hb : b.natAbs < 10 ^ 12) : ReprOk (.tuple [.int a, .int b]) := by
  have la := log_small ha
  have lb := log_small hb
  refine ⟨by simp [PyData.showable, PyData.showableAll]; omega, by simp [PyData.depth, PyData.depthAll], PyData.shown_fits (B := 13) (by decide) (by decide) ?_ (by simp [PyData.weight, PyData.weightAll]; split <;> split <;> omega)⟩
  simp [PyData.leavesShort, PyData.leavesShortAll, PyData.shown_int_le ha, PyData.shown_int_le hb]
theorem log_ok {a : Int} (ha : a.natAbs < 10 ^ 12) : a.natAbs.log2 < 1920 := by
  have := log_small ha
  omega
/-- what the law takes to be due -/
noncomputable def dueD (m r : Nat) : D := by
  classical
  exact if big m r then .int (-1) else .non
theorem due_big {m r : Nat} (h : big m r) : dueD m r = .int (-1) := by unfold dueD; rw [if_pos h]
theorem due_small {m r : Nat} (h : ¬ big m r) : dueD m r = .non := by unfold dueD; rw [if_neg h]
local macro_rules | `(tactic| walk_at "n") => `(tactic| simp only [VH.put, VH.get, VH.frz, VH.wipeE, List.map])
section
variable {P : Program} {w : World} {K : PySem.W.Frag} {mg : Str → Option Value} {base : Heap} {C S : Addr} {aL aC aR aH : Addr}
theorem ok_law {f : Addr} {fd : FuncData} (T : Txu K mg [C] [S] aL aC aR aH) (F : Fun K "law" "law" s_law f fd)
    {f1 : Addr} {d1 : FuncData} (F__law_draw : FnG P w K mg base 1 f1 d1 ["well", "many"] (spV K wfDraw)) (G__law_draw : Glob K mg "_law_draw" f1 d1 ["well", "many"])
    {f2 : Addr} {d2 : FuncData} (F__law_pick : FnG P w K mg base 2 f2 d2 ["well", "things"] (spV K wfPick)) (G__law_pick : Glob K mg "_law_pick" f2 d2 ["well", "things"])
    {f3 : Addr} {d3 : FuncData} (F__law_well : FnG P w K mg base 1 f3 d3 ["script"] (spWell K)) (G__law_well : Glob K mg "_law_well" f3 d3 ["script"])
    {f4 : Addr} {d4 : FuncData} (F__law_rows : FnG P w K mg base 2 f4 d4 ["well", "most", "fails"] (spV K wfRowsL)) (G__law_rows : Glob K mg "_law_rows" f4 d4 ["well", "most", "fails"])
    {f5 : Addr} {d5 : FuncData} (F__law_unit_of : FnG P w K mg base 3 f5 d5 ["rows"] (spV K (wfUnitOf C))) (G__law_unit_of : Glob K mg "_law_unit_of" f5 d5 ["rows"])
    {f6 : Addr} {d6 : FuncData} (F_count_ways : FnG P w K mg base 2 f6 d6 ["unit"] (spV K (wfCount [C]))) (G_count_ways : Glob K mg "count_ways" f6 d6 ["unit"])
    {f7 : Addr} {d7 : FuncData} (F_is_good_unit : FnG P w K mg base 11 f7 d7 ["unit"] (spV K (wfGoodU C))) (G_is_good_unit : Glob K mg "is_good_unit" f7 d7 ["unit"])
    {f8 : Addr} {d8 : FuncData} (F__law_verdict : FnG P w K mg base 12 f8 d8 ["rows"] (spV K (wfVerd C))) (G__law_verdict : Glob K mg "_law_verdict" f8 d8 ["rows"])
    {f9 : Addr} {d9 : FuncData} (F__law_spoilt : FnG P w K mg base 1 f9 d9 ["rows", "at", "row"] (spV K wfSpoilt)) (G__law_spoilt : Glob K mg "_law_spoilt" f9 d9 ["rows", "at", "row"]) :
    FnG P w K mg base 13 f fd ["script"] (spLaw K 63) := by
  refine law_ok F sc_law fun cdv A outer s H E hg hr hp => ⟨_, _, (b_well 1 sc_law.nd F__law_well G__law_well hg (hr.mono (by decide)) hp (a_cons (v_var 0) a_nil) (fun p q => (b_frz 1 (b_cons (s_set 2 sc_law.nd (v_call F__law_pick G__law_pick hg (hr.mono (by decide)) hp (a_cons (v_var 1) (a_cons (v_lst (a_cons v_int (a_cons v_int (a_cons v_int (a_cons v_int (a_cons v_int (a_cons v_int (a_cons (v_add v_int (v_call F__law_draw G__law_draw hg (hr.mono (by decide)) hp (a_cons (v_var 1) (a_cons v_int a_nil)))) (a_cons v_int a_nil))))))))) a_nil))))
  (b_frz 1 (b_cons (s_set 3 sc_law.nd (v_call F__law_pick G__law_pick hg (hr.mono (by decide)) hp (a_cons (v_var 1) (a_cons (v_lst (a_cons v_int (a_cons v_int (a_cons v_int (a_cons v_int (a_cons v_int (a_cons v_int (a_cons (v_add v_int (v_call F__law_draw G__law_draw hg (hr.mono (by decide)) hp (a_cons (v_var 1) (a_cons v_int a_nil)))) (a_cons v_int a_nil))))))))) a_nil))))
  (b_frz 3 (b_frz 2 (b_frz 1 (b_cons (s_set 4 sc_law.nd (v_call F__law_rows G__law_rows hg (hr.mono (by decide)) hp (a_cons (v_var 1) (a_cons (v_var 2) (a_cons (v_var 3) a_nil)))))
  (b_cons (s_set 5 sc_law.nd v_non)
  (b_cut (s_if (t_bool (w_or (t_cmp c_gt (v_var 2) v_int) (w_or1 (t_cmp c_gt (v_var 3) v_int))))
  (b_one (s_set 5 sc_law.nd (v_neg v_int)))
  b_nil)
  (b_frz 4 (b_cons (s_if (t_cmp (c_ne hr) (v_b1 (cr_reprX hg (room100 hr)) unw_reprX T.n_repr (by decide +kernel) (v_call F_count_ways G_count_ways hg (hr.mono (by decide)) hp (a_cons (v_call F__law_unit_of G__law_unit_of hg (hr.mono (by decide)) hp (a_cons (v_var 4) a_nil)) a_nil))) (v_b1 (cr_reprX hg (room100 hr)) unw_reprX T.n_repr (by decide +kernel) (v_tup (a_cons (v_b2 (call_min2 rfl) opw_min T.n_min (by decide +kernel) v_int (v_var 2)) (a_cons (v_b2 (call_min2 rfl) opw_min T.n_min (by decide +kernel) v_int (v_var 3)) a_nil)))))
  (b_one (s_ret v_bl))
  b_nil)
  (b_frz 4 (b_frz 1 (b_cut (s_if (t_bool (w_and (t_cmp (c_eq hr) (v_call F__law_draw G__law_draw hg (hr.mono (by decide)) hp (a_cons (v_var 1) (a_cons v_int a_nil))) v_int) (w_and1 (t_cmp (c_ne hr) (v_b1 (cr_reprX hg (room100 hr)) unw_reprX T.n_repr (by decide +kernel) (v_call F_is_good_unit G_is_good_unit hg (hr.mono (by decide)) hp (a_cons (v_call F__law_unit_of G__law_unit_of hg (hr.mono (by decide)) hp (a_cons (v_var 4) a_nil)) a_nil))) (v_b1 (cr_reprX hg (room100 hr)) unw_reprX T.n_repr (by decide +kernel) (v_cmp c_is (v_var 5) v_non))))))
  (b_one (s_ret v_bl))
  b_nil)
  (b_frz 4 (b_cut (s_if (t_cmp (c_ne hr) (v_b1 (cr_reprX hg (room100 hr)) unw_reprX T.n_repr (by decide +kernel) (v_call F__law_verdict G__law_verdict hg (hr.mono (by decide)) hp (a_cons (v_var 4) a_nil))) (v_b1 (cr_reprX hg (room100 hr)) unw_reprX T.n_repr (by decide +kernel) (v_var 5)))
  (b_one (s_ret v_bl))
  b_nil)
  (b_frz 1 (b_cons (s_set 6 sc_law.nd (v_call F__law_draw G__law_draw hg (hr.mono (by decide)) hp (a_cons (v_var 1) (a_cons (v_b1 cr_lenA unw_len T.n_len PySem.boot_len (v_var 4)) a_nil))))
  (b_frz 1 (b_cons (s_set 7 sc_law.nd (v_call F__law_pick G__law_pick hg (hr.mono (by decide)) hp (a_cons (v_var 1) (a_cons (v_lst (a_cons (v_b1 cr_lenA unw_len T.n_len PySem.boot_len (v_var 4)) (a_cons (v_neg v_int) (a_cons (v_add (v_b1 cr_lenA unw_len T.n_len PySem.boot_len (v_var 4)) v_int) a_nil)))) a_nil))))
  (b_frz 7 (b_frz 6 (b_frz 4 (b_cut (s_if (t_cmp (c_ne hr) (v_b1 (cr_reprX hg (room100 hr)) unw_reprX T.n_repr (by decide +kernel) (v_call F__law_verdict G__law_verdict hg (hr.mono (by decide)) hp (a_cons (v_call F__law_spoilt G__law_spoilt hg (hr.mono (by decide)) hp (a_cons (v_var 4) (a_cons (v_var 6) (a_cons (v_tup (a_cons v_str (a_cons v_int (a_cons (v_var 7) a_nil)))) a_nil)))) a_nil))) (v_b1 (cr_reprX hg (room100 hr)) unw_reprX T.n_repr (by decide +kernel) (v_var 6)))
  (b_one (s_ret v_bl))
  b_nil)
  (b_cons (s_setLc 9 rfl sc_law.nd (i_rng1 T.n_range (v_b1 cr_lenA unw_len T.n_len PySem.boot_len (v_var 4))) (own := [("k", 8)]) rfl (fun _ _ _ _ _ => (g_name 8 sc_law.nd)) (fun _ _ _ _ _ => (ts_one (t_cmp (c_eq hr) (v_ix hr (v_ix hr (v_var 4) (v_var 8)) v_int) v_str))) (fun _ _ _ _ _ => (v_var 8)) (sw_true rfl rfl rfl (by decide +kernel)))
  (b_frz 9 (b_cons (s_for (passes_of rfl) rfl (i_seq (v_var 9)) (g_name 10 sc_law.nd)
  (b_cons (s_if (t_cmp c_is (v_var 5) v_non)
  (b_one (s_set 5 sc_law.nd (v_var 10)))
  b_nil)
  (b_frz 4 (b_one (s_if (t_cmp (c_ne hr) (v_b1 (cr_reprX hg (room100 hr)) unw_reprX T.n_repr (by decide +kernel) (v_call F__law_verdict G__law_verdict hg (hr.mono (by decide)) hp (a_cons (v_call F__law_spoilt G__law_spoilt hg (hr.mono (by decide)) hp (a_cons (v_var 4) (a_cons (v_var 10) (a_cons (v_tup (a_cons v_str (a_cons v_int (a_cons (v_tup (a_cons v_str (a_cons v_str (a_cons v_int a_nil)))) a_nil)))) a_nil)))) a_nil))) (v_b1 (cr_reprX hg (room100 hr)) unw_reprX T.n_repr (by decide +kernel) (v_var 5)))
  (b_one (s_ret v_bl))
  b_nil)))))
  (b_one (s_ret v_bl)))))))))))))))))))))))))))))))), fun ns hns => ?_⟩
  clear hg hr hp T F
  rw [show startE _ [D.fls ns] = ([.sh (.fls ns), .un, .un, .un, .un, .un, .un, .un, .un, .un, .un] : VH.Env) from rfl]
  walk_at "w"
  refine ⟨⟨ns, rfl, by omega⟩, fun p q => ?_⟩
  walk_at "u"
  refine ⟨p, q, _, rfl, rfl, by decide, by decide, fun d d0 d1 => ?_⟩
  obtain ⟨d, rfl⟩ := Int.eq_ofNat_of_zero_le d0
  walk_at "u"
  refine ⟨p, q, _, rfl, rfl, by simp, by simp, fun md hmd => ?_⟩
  obtain ⟨m, rfl, m0, m1⟩ : ∃ m : Nat, md = .int (m : Nat) ∧ 1 ≤ m ∧ m < 200 := by
    simp at hmd
    rcases hmd with rfl | rfl | rfl | rfl | rfl | rfl | rfl | rfl
    · exact ⟨63, rfl, by decide, by decide⟩
    · exact ⟨64, rfl, by decide, by decide⟩
    · exact ⟨65, rfl, by decide, by decide⟩
    · exact ⟨66, rfl, by decide, by decide⟩
    · exact ⟨1, rfl, by decide, by decide⟩
    · exact ⟨2, rfl, by decide, by decide⟩
    · exact ⟨1 + d, rfl, by omega, by omega⟩
    · exact ⟨64, rfl, by decide, by decide⟩
  walk_at "u"
  refine ⟨p, q, _, rfl, rfl, by decide, by decide, fun d2 d20 d21 => ?_⟩
  obtain ⟨d2, rfl⟩ := Int.eq_ofNat_of_zero_le d20
  walk_at "u"
  refine ⟨p, q, _, rfl, rfl, by simp, by simp, fun rd hrd => ?_⟩
  obtain ⟨r, rfl, r0, r1⟩ : ∃ m : Nat, rd = .int (m : Nat) ∧ 1 ≤ m ∧ m < 10000 := by
    simp at hrd
    rcases hrd with rfl | rfl | rfl | rfl | rfl | rfl | rfl | rfl
    · exact ⟨3999, rfl, by decide, by decide⟩
    · exact ⟨4000, rfl, by decide, by decide⟩
    · exact ⟨4001, rfl, by decide, by decide⟩
    · exact ⟨4002, rfl, by decide, by decide⟩
    · exact ⟨1, rfl, by decide, by decide⟩
    · exact ⟨2, rfl, by decide, by decide⟩
    · exact ⟨1 + d2, rfl, by omega, by omega⟩
    · exact ⟨4000, rfl, by decide, by decide⟩
  clear hmd hrd d1 d0 d21 d20
  walk_at "u"
  refine ⟨p, q, m, r, rfl, rfl, m0, by omega, r0, by omega, fun f1 j f2 h1 h2 => ?_⟩
  obtain ⟨n0, n1⟩ := rows_small (j := j) h1 h2
  have hu := fit_unit (C := C) (rows_fit (j := j) h1 h2)
  have hgood := fit_good (rows_fit (j := j) h1 h2)
  have hways := rows_ways (j := j) h1 h2
  walk_at "u"
  refine ⟨fun env => env = [.sh (.fls ns), .sh (.ref p), .sh (.int (m : Nat)), .sh (.int (r : Nat)), .ow ((rowsR f1 j f2).map rowD), .sh (dueD m r), .un, .un, .un, .un, .un], ?_, ?_⟩
  · by_cases b1 : 64 < m
    · rw [due_big (.inl b1)]
      walk_at "u"
      rfl
    · by_cases b2 : 4000 < r
      · rw [due_big (.inr b2)]
        walk_at "u"
        rfl
      · rw [due_small (fun z => z.elim b1 b2)]
        walk_at "u"
        rfl
  rintro env rfl
  walk_at "u"
  refine ⟨_, rfl, ?_⟩
  walk_at "u"
  refine ⟨_, _, rfl, hu, hgood, by rw [List.length_map]; omega, by rw [List.length_map]; omega, ?_⟩
  rw [hways]
  have rk := rok_tup2 (a := min (m : Int) 65) (b := min (r : Int) 4001) (by omega) (by omega)
  walk_at "u"
  intro x x1 x2 x3
  walk_at "u"
  intro y y1 y2 y3
  obtain rfl : x = min (m : Int) 65 := by omega
  obtain rfl : y = min (r : Int) 4001 := by omega
  walk_at "u"
  refine dec_no (by simp) ?_
  walk_at "u"
  refine ⟨fun env => env = [.sh (.fls ns), .sh (.ref p), .sh (.int (m : Nat)), .sh (.int (r : Nat)), .sh (.lst ((rowsR f1 j f2).map rowD)), .sh (dueD m r), .un, .un, .un, .un, .un], ?_, ?_⟩
  · walk_at "u"
    refine ⟨p, q, _, rfl, rfl, by decide, by decide, fun e e0 e1 => ?_⟩
    walk_at "u"
    refine dec_in (fun _ => ?_) fun _ => ?_
    · walk_at "u"
      refine ⟨_, rfl, ?_⟩
      walk_at "u"
      refine wrong_rows h1 h2 (fun b => .inr ⟨-1, rfl, ?_⟩) (fun b => .inl ⟨rfl, ?_⟩)
      · rw [due_big b]
        walk_at "u"
        rfl
      · rw [due_small b]
        walk_at "u"
        rfl
    · walk_at "u"
      rfl
  rintro env rfl
  walk_at "u"
  refine ⟨fun env => env = [.sh (.fls ns), .sh (.ref p), .sh (.int (m : Nat)), .sh (.int (r : Nat)), .sh (.lst ((rowsR f1 j f2).map rowD)), .sh (dueD m r), .un, .un, .un, .un, .un], ?_, ?_⟩
  · walk_at "u"
    refine ⟨_, rfl, ?_⟩
    refine wrong_rows h1 h2 (fun b => .inr ⟨-1, rfl, ?_⟩) (fun b => .inl ⟨rfl, ?_⟩)
    · rw [due_big b]
      walk_at "u"
      rfl
    · rw [due_small b]
      walk_at "u"
      rfl
  rintro env rfl
  have ml : ((rowsR f1 j f2).map rowD).length = (rowsR f1 j f2).length := List.length_map ..
  walk_at "u"
  refine ⟨p, q, _, rfl, rfl, by omega, by omega, fun a a0 a1 => ?_⟩
  obtain ⟨a, rfl⟩ := Int.eq_ofNat_of_zero_le a0
  walk_at "u"
  refine ⟨p, q, _, rfl, rfl, by simp, by simp, fun td htd => ?_⟩
  obtain ⟨to, rfl, hto⟩ : ∃ to : Int, td = .int to ∧ (to < 0 ∨ (rowsR f1 j f2).length ≤ to) := by
    simp at htd
    rcases htd with rfl | rfl | rfl
    · exact ⟨_, rfl, .inr (Int.le_refl _)⟩
    · exact ⟨_, rfl, .inl (by decide)⟩
    · exact ⟨_, rfl, .inr (by omega)⟩
  clear htd a0
  have ha : a < (rowsR f1 j f2).length := by omega
  have la : (((a : Nat) : Int)).natAbs.log2 < 1920 := log_ok (by omega)
  walk_at "u"
  refine ⟨fun env => ∃ s7, env = [.sh (.fls ns), .sh (.ref p), .sh (.int (m : Nat)), .sh (.int (r : Nat)), .sh (.lst ((rowsR f1 j f2).map rowD)), .sh (dueD m r), .sh (.int (a : Nat)), s7, .un, .un, .un], ?_, ?_⟩
  · walk_at "u"
    refine ⟨_, a, _, rfl, by omega, by omega, ?_⟩
    walk_at "u"
    refine ⟨_, rfl, ?_⟩
    rw [show ((rowsR f1 j f2).map rowD).set a (D.tup [.str "jump", .int 3, .int to]) = ((rowsR f1 j f2).set a (.jump 3 to)).map rowD by rw [List.map_set]; rfl]
    refine wrong_jump h1 h2 ha hto (.inr ⟨_, rfl, ?_⟩)
    walk_at "u"
    refine dec_no (by simp) ?_
    walk_at "u"
    exact ⟨_, rfl⟩
  rintro env ⟨s7, rfl⟩
  have lr : rngD 0 (((rowsR f1 j f2).map rowD).length : Int).toNat = rgs 0 (rowsR f1 j f2).length := by rw [ml, ← rngD_rgs]; rfl
  walk_at "w"
  refine ⟨by omega, by omega, ?_⟩
  rw [lr]
  refine ⟨line_le (by rw [← rgs_map]; simp; omega), ?_⟩
  refine lcW_ind (fun ds acc => ∃ (x y : Nat), ds = rgs x y ∧ x + y = (rowsR f1 j f2).length ∧ acc = if j = false ∧ 3 + exLen f1 < x then [D.int ((3 + exLen f1 : Nat) : Int)] else []) ?_ ?_ ⟨0, _, rfl, by omega, by simp⟩
  rotate_left
  · rintro d ds acc ⟨x, y, e1, hm, rfl⟩ ih
    cases y with
    | zero => cases e1
    | succ y =>
    obtain ⟨rfl, rfl⟩ := List.cons.inj e1
    obtain ⟨k, hk⟩ : ∃ k, (rowsR f1 j f2)[x]? = some k := ⟨_, List.getElem?_eq_getElem (by omega)⟩
    have hrj : ixD ((rowsR f1 j f2).map rowD) (x : Int) = some (rowD k) := by rw [ixD_nat, List.getElem?_map, hk]; rfl
    have no : k ≠ .retx → ∃ (x' y' : Nat), rgs (x + 1) y = rgs x' y' ∧ x' + y' = (rowsR f1 j f2).length ∧ (if j = false ∧ 3 + exLen f1 < x then [D.int ((3 + exLen f1 : Nat) : Int)] else []) = if j = false ∧ 3 + exLen f1 < x' then [D.int ((3 + exLen f1 : Nat) : Int)] else [] := fun ne => by
      refine ⟨x + 1, y, rfl, by omega, ?_⟩
      have : (j = false ∧ 3 + exLen f1 < x) ↔ (j = false ∧ 3 + exLen f1 < x + 1) := by
        constructor
        · exact fun h => ⟨h.1, by omega⟩
        · refine fun h => ⟨h.1, Classical.byContradiction fun c => ne ?_⟩
          have : x = 3 + exLen f1 := by omega
          rcases rows_get h1 h2 hk with ⟨e, _⟩ | ⟨e, _⟩ | ⟨_, _, e, _⟩ | ⟨_, e⟩ | ⟨_, e, _⟩
          · omega
          · omega
          · exact absurd this e
          · rw [e, h.1]; rfl
          · exact absurd this e
      simp only [this]
    rcases rows_get h1 h2 hk with ⟨_, rfl⟩ | ⟨_, rfl⟩ | ⟨_, _, _, l, t, to, rfl, _⟩ | ⟨ex, rfl⟩ | ⟨_, _, rfl⟩
    · walk_at "u"
      exact ih _ (no (by simp))
    · walk_at "u"
      exact ih _ (no (by simp))
    · walk_at "u"
      exact ih _ (no (by simp))
    · cases j with
      | true =>
        walk_at "u"
        exact ih _ (no (by simp [lastR]))
      | false =>
        walk_at "u"
        refine ih _ ⟨x + 1, y, rfl, by omega, ?_⟩
        rw [if_neg (by omega), if_pos ⟨rfl, by omega⟩, ex]
        rfl
    · walk_at "u"
      exact ih _ (no (by simp))
  rintro acc ⟨x, y, e1, hm, rfl⟩
  cases y with
  | succ y => cases e1
  | zero =>
  have len := rows_len (j := j) h1 h2
  have a2 := at2_eq (f1 := f1)
  cases j with
  | true =>
    rw [if_neg (by simp)]
    walk_at "u"
  | false =>
    rw [if_pos ⟨rfl, by omega⟩]
    have le : ((((3 + exLen f1 : Nat) : Int))).natAbs.log2 < 1920 := log_ok (by omega)
    have sp : ((rowsR f1 false f2).map rowD).set (3 + exLen f1) (D.tup [.str "return", .int 7, .tup [.str "var", .str "y", .int 0]]) = ((rowsR f1 false f2).set (3 + exLen f1) .rety).map rowD := by rw [List.map_set]; rfl
    by_cases b : big m r
    · rw [due_big b]
      walk_at "u"
      refine ⟨_, 3 + exLen f1, _, rfl, by omega, by omega, ?_⟩
      walk_at "u"
      refine ⟨_, rfl, ?_⟩
      rw [sp]
      refine wrong_ret h1 h2 (fun _ => .inr ⟨-1, rfl, ?_⟩) (fun b' => absurd b b')
      walk_at "u"
    · rw [due_small b]
      walk_at "u"
      refine ⟨_, 3 + exLen f1, _, rfl, by omega, by omega, ?_⟩
      walk_at "u"
      refine ⟨_, rfl, ?_⟩
      rw [sp]
      refine wrong_ret h1 h2 (fun b' => absurd b' b) (fun _ => .inr ⟨_, rfl, ?_⟩)
      walk_at "u"
      refine dec_no (by simp) ?_
      walk_at "u"
end
end K54

set_option Elab.async false
set_option maxRecDepth 100000
set_option linter.all false
set_option maxHeartbeats 4000000
namespace K54
open PySem L2 VH K50
local macro_rules | `(tactic| walk_at "w") => `(tactic| conv => whnf)
local macro_rules | `(tactic| walk_at "s") => `(tactic| first | assumption | decide | omega | rfl | exact (show (0 : Int) < _ from by decide) | exact ⟨by decide, by decide⟩ | exact nats_flat | exact Or.inl (Or.inl ⟨by decide, by decide⟩) | exact Or.inl (Or.inr ⟨by decide, by decide⟩) | exact Nat.le_of_ble_eq_true rfl | exact line_le (by simp; omega) | exact line_lt (by simp; omega) | exact line_lt (by omega) | exact line_le (by omega))
local macro_rules | `(tactic| walk_at "v") => `(tactic| first
  | (refine And.intro (by walk_at "s") ?_)
  | (refine gOpt_in (by assumption) ?_)
  | (refine dec_yes (dec_t (by first | assumption | omega)) ?_)
  | (refine dec_no (dec_f (by first | assumption | omega)) ?_)
  | (refine dec_yes (dec_nt (by first | assumption | omega)) ?_)
  | (refine dec_no (dec_nf (by first | assumption | omega)) ?_))
local macro_rules | `(tactic| walk_at "u") => `(tactic| (conv => whnf); repeat ((walk_at "v"); (conv => whnf)))

--opts {}
abbrev s_BadUnit___init__ : Stmt := inClass (topS 3) 0
theorem sc_BadUnit___init__ : FnScope ["self", "at"] ["self", "at"] (defScope s_BadUnit___init__) := ⟨rfl, rfl, rfl, by decide +kernel, rfl, by decide +kernel, by decide +kernel⟩
abbrev s_list_fits : Stmt := topS 39
theorem sc_list_fits : FnScope ["scope", "told"] ["scope", "told"] (defScope s_list_fits) := ⟨rfl, rfl, rfl, by decide +kernel, rfl, by decide +kernel, by decide +kernel⟩
abbrev s_promise_fits : Stmt := topS 44
theorem sc_promise_fits : FnScope ["scope", "promise"] ["scope", "promise"] (defScope s_promise_fits) := ⟨rfl, rfl, rfl, by decide +kernel, rfl, by decide +kernel, by decide +kernel⟩
abbrev s_call_fits : Stmt := topS 62
theorem sc_call_fits : FnScope ["unit", "scope", "row", "head", "arguments", "pairs", "parameter", "argument"] ["unit", "scope", "row"] (defScope s_call_fits) := ⟨rfl, rfl, rfl, by decide +kernel, rfl, by decide +kernel, by decide +kernel⟩
abbrev s_names_of_promise : Stmt := topS 19
theorem sc_names_of_promise : FnScope ["promise", "found"] ["promise"] (defScope s_names_of_promise) := ⟨rfl, rfl, rfl, by decide +kernel, rfl, by decide +kernel, by decide +kernel⟩
abbrev s_names_of_call : Stmt := topS 21
theorem sc_names_of_call : FnScope ["row", "found", "argument"] ["row"] (defScope s_names_of_call) := ⟨rfl, rfl, rfl, by decide +kernel, rfl, by decide +kernel, by decide +kernel⟩
abbrev s_Unit_used : Stmt := inClass (topS 47) 4
theorem sc_Unit_used : FnScope ["self", "name", "head"] ["self", "name"] (defScope s_Unit_used) := ⟨rfl, rfl, rfl, by decide +kernel, rfl, by decide +kernel, by decide +kernel⟩
def strB : List Value → List Str → Bool
  | [], [] => true
  | .str s _ :: r, x :: xs => decide (s = x) && strB r xs
  | _, _ => false
theorem strB_ok : ∀ {its : List Value} {xs : List Str}, strB its xs = true → Vals (xs.map V.str) its
  | [], [], _ => .nil
  | .str s t :: r, x :: xs, h => by
    simp [strB] at h
    obtain ⟨rfl, h⟩ := h
    exact .cons ⟨t, rfl⟩ (strB_ok h)
/-- the written part's tuple of these texts stands at a -/
theorem tup_ok {K : PySem.W.Frag} {a : Addr} {xs : List Str} {od : Option Addr} {its : Array Value} {n : Nat} {sl : Array (Option Value)} (e : K.lookup a = some ⟨.type "tuple", od, .seq its n, sl⟩) (h : (decide (its.size ≤ 1000) && strB its.toList xs) = true) {F : Hp} : Rv K F (.ref a) (.tup (xs.map D.str)) := by
  obtain ⟨h1, h2⟩ := Bool.and_eq_true_iff.mp h
  have h1 : its.size ≤ 1000 := of_decide_eq_true h1
  exact .tup (.inr ⟨_, its, _, e, rfl, rfl, Nat.le_trans h1 (by decide), strB_ok h2⟩) (rva_strs xs)
theorem all_mk {l : PySem.W.OpenLaw} {w : World} {K : PySem.W.Frag} {h : Heap} {mg : Str → Option Value} {fa C f1 S f2 aH f3 f4 f5 CB f6 f7 f8 f9 f10 f11 f12 f13 f14 f15 f16 f17 f18 f19 f20 f21 f22 f23 f24 f25 f26 f27 f28 f29 f30 f31 f32 f33 f34 f35 f36 f37 f38 f39 f40 f41 f42 f43 f44 f45 f46 f47 f48 f49 f50 f51 f52 f53 f54 f55 f56 f57 f58 f59 f60 f61 f62 f63 f64 aL aC aR : Addr} (X : K.In h) (G : h.Ns mainGlobals mg) (hfa : mg "law" = some (.ref fa))
    {od1 an1 : Option Addr} {sl1 : Array (Option Value)} {oc1 kV1 dc1 pm1 cd1 ct1 : Value} {od2 an2 : Option Addr} {sl2 : Array (Option Value)} {oc2 kV2 dc2 pm2 cd2 ct2 : Value} {od3 an3 : Option Addr} {sl3 : Array (Option Value)} {oc3 kV3 dc3 pm3 cd3 ct3 : Value} {p3 : Addr} {r3 : List Value} {od4 an4 : Option Addr} {sl4 : Array (Option Value)} {oc4 kV4 dc4 pm4 cd4 ct4 : Value} {p4 : Addr} {r4 : List Value} {od5 an5 : Option Addr} {sl5 : Array (Option Value)} {oc5 kV5 dc5 pm5 cd5 ct5 : Value} {xnm xq : Str} {xN : Addr} {xbs xbm : List Value} {xsn : _} {xsub : _} {xab : _} {xcol : _} {xdd xk0 xk1 xk2 xk3 xk5 : _} {od6 an6 : Option Addr} {sl6 : Array (Option Value)} {oc6 kV6 dc6 pm6 cd6 ct6 : Value} {od7 an7 : Option Addr} {sl7 : Array (Option Value)} {oc7 kV7 dc7 pm7 cd7 ct7 : Value} {od8 an8 : Option Addr} {sl8 : Array (Option Value)} {oc8 kV8 dc8 pm8 cd8 ct8 : Value} {od9 an9 : Option Addr} {sl9 : Array (Option Value)} {oc9 kV9 dc9 pm9 cd9 ct9 : Value} {od10 an10 : Option Addr} {sl10 : Array (Option Value)} {oc10 kV10 dc10 pm10 cd10 ct10 : Value} {od11 an11 : Option Addr} {sl11 : Array (Option Value)} {oc11 kV11 dc11 pm11 cd11 ct11 : Value} {od12 an12 : Option Addr} {sl12 : Array (Option Value)} {oc12 kV12 dc12 pm12 cd12 ct12 : Value} {od13 an13 : Option Addr} {sl13 : Array (Option Value)} {oc13 kV13 dc13 pm13 cd13 ct13 : Value} {od14 an14 : Option Addr} {sl14 : Array (Option Value)} {oc14 kV14 dc14 pm14 cd14 ct14 : Value} {od15 an15 : Option Addr} {sl15 : Array (Option Value)} {oc15 kV15 dc15 pm15 cd15 ct15 : Value} {od16 an16 : Option Addr} {sl16 : Array (Option Value)} {oc16 kV16 dc16 pm16 cd16 ct16 : Value} {od17 an17 : Option Addr} {sl17 : Array (Option Value)} {oc17 kV17 dc17 pm17 cd17 ct17 : Value} {od18 an18 : Option Addr} {sl18 : Array (Option Value)} {oc18 kV18 dc18 pm18 cd18 ct18 : Value} {od19 an19 : Option Addr} {sl19 : Array (Option Value)} {oc19 kV19 dc19 pm19 cd19 ct19 : Value} {od20 an20 : Option Addr} {sl20 : Array (Option Value)} {oc20 kV20 dc20 pm20 cd20 ct20 : Value} {od21 an21 : Option Addr} {sl21 : Array (Option Value)} {oc21 kV21 dc21 pm21 cd21 ct21 : Value} {od22 an22 : Option Addr} {sl22 : Array (Option Value)} {oc22 kV22 dc22 pm22 cd22 ct22 : Value} {od23 an23 : Option Addr} {sl23 : Array (Option Value)} {oc23 kV23 dc23 pm23 cd23 ct23 : Value} {od24 an24 : Option Addr} {sl24 : Array (Option Value)} {oc24 kV24 dc24 pm24 cd24 ct24 : Value} {od25 an25 : Option Addr} {sl25 : Array (Option Value)} {oc25 kV25 dc25 pm25 cd25 ct25 : Value} {od26 an26 : Option Addr} {sl26 : Array (Option Value)} {oc26 kV26 dc26 pm26 cd26 ct26 : Value} {od27 an27 : Option Addr} {sl27 : Array (Option Value)} {oc27 kV27 dc27 pm27 cd27 ct27 : Value} {od28 an28 : Option Addr} {sl28 : Array (Option Value)} {oc28 kV28 dc28 pm28 cd28 ct28 : Value} {od29 an29 : Option Addr} {sl29 : Array (Option Value)} {oc29 kV29 dc29 pm29 cd29 ct29 : Value} {od30 an30 : Option Addr} {sl30 : Array (Option Value)} {oc30 kV30 dc30 pm30 cd30 ct30 : Value} {od31 an31 : Option Addr} {sl31 : Array (Option Value)} {oc31 kV31 dc31 pm31 cd31 ct31 : Value} {od32 an32 : Option Addr} {sl32 : Array (Option Value)} {oc32 kV32 dc32 pm32 cd32 ct32 : Value} {od33 an33 : Option Addr} {sl33 : Array (Option Value)} {oc33 kV33 dc33 pm33 cd33 ct33 : Value} {od34 an34 : Option Addr} {sl34 : Array (Option Value)} {oc34 kV34 dc34 pm34 cd34 ct34 : Value} {od35 an35 : Option Addr} {sl35 : Array (Option Value)} {oc35 kV35 dc35 pm35 cd35 ct35 : Value} {od36 an36 : Option Addr} {sl36 : Array (Option Value)} {oc36 kV36 dc36 pm36 cd36 ct36 : Value} {od37 an37 : Option Addr} {sl37 : Array (Option Value)} {oc37 kV37 dc37 pm37 cd37 ct37 : Value} {od38 an38 : Option Addr} {sl38 : Array (Option Value)} {oc38 kV38 dc38 pm38 cd38 ct38 : Value} {od39 an39 : Option Addr} {sl39 : Array (Option Value)} {oc39 kV39 dc39 pm39 cd39 ct39 : Value} {od40 an40 : Option Addr} {sl40 : Array (Option Value)} {oc40 kV40 dc40 pm40 cd40 ct40 : Value} {od41 an41 : Option Addr} {sl41 : Array (Option Value)} {oc41 kV41 dc41 pm41 cd41 ct41 : Value} {od42 an42 : Option Addr} {sl42 : Array (Option Value)} {oc42 kV42 dc42 pm42 cd42 ct42 : Value} {od43 an43 : Option Addr} {sl43 : Array (Option Value)} {oc43 kV43 dc43 pm43 cd43 ct43 : Value} {od44 an44 : Option Addr} {sl44 : Array (Option Value)} {oc44 kV44 dc44 pm44 cd44 ct44 : Value} {od45 an45 : Option Addr} {sl45 : Array (Option Value)} {oc45 kV45 dc45 pm45 cd45 ct45 : Value} {od46 an46 : Option Addr} {sl46 : Array (Option Value)} {oc46 kV46 dc46 pm46 cd46 ct46 : Value} {od47 an47 : Option Addr} {sl47 : Array (Option Value)} {oc47 kV47 dc47 pm47 cd47 ct47 : Value} {od48 an48 : Option Addr} {sl48 : Array (Option Value)} {oc48 kV48 dc48 pm48 cd48 ct48 : Value} {od49 an49 : Option Addr} {sl49 : Array (Option Value)} {oc49 kV49 dc49 pm49 cd49 ct49 : Value} {od50 an50 : Option Addr} {sl50 : Array (Option Value)} {oc50 kV50 dc50 pm50 cd50 ct50 : Value} {od51 an51 : Option Addr} {sl51 : Array (Option Value)} {oc51 kV51 dc51 pm51 cd51 ct51 : Value} {od52 an52 : Option Addr} {sl52 : Array (Option Value)} {oc52 kV52 dc52 pm52 cd52 ct52 : Value} {od53 an53 : Option Addr} {sl53 : Array (Option Value)} {oc53 kV53 dc53 pm53 cd53 ct53 : Value} {od54 an54 : Option Addr} {sl54 : Array (Option Value)} {oc54 kV54 dc54 pm54 cd54 ct54 : Value} {od55 an55 : Option Addr} {sl55 : Array (Option Value)} {oc55 kV55 dc55 pm55 cd55 ct55 : Value} {od56 an56 : Option Addr} {sl56 : Array (Option Value)} {oc56 kV56 dc56 pm56 cd56 ct56 : Value} {od57 an57 : Option Addr} {sl57 : Array (Option Value)} {oc57 kV57 dc57 pm57 cd57 ct57 : Value} {od58 an58 : Option Addr} {sl58 : Array (Option Value)} {oc58 kV58 dc58 pm58 cd58 ct58 : Value} {od59 an59 : Option Addr} {sl59 : Array (Option Value)} {oc59 kV59 dc59 pm59 cd59 ct59 : Value} {od60 an60 : Option Addr} {sl60 : Array (Option Value)} {oc60 kV60 dc60 pm60 cd60 ct60 : Value} {od61 an61 : Option Addr} {sl61 : Array (Option Value)} {oc61 kV61 dc61 pm61 cd61 ct61 : Value} {od62 an62 : Option Addr} {sl62 : Array (Option Value)} {oc62 kV62 dc62 pm62 cd62 ct62 : Value} {od63 an63 : Option Addr} {sl63 : Array (Option Value)} {oc63 kV63 dc63 pm63 cd63 ct63 : Value} {od64 an64 : Option Addr} {sl64 : Array (Option Value)} {oc64 kV64 dc64 pm64 cd64 ct64 : Value} {tk_MOST_WAYS : Tok} {tk_MOST_FAILING_WAYS : Tok} {tk_MOST_LETTERS : Tok} {tk_MOST_NUMBER : Tok} {tk_MOST_OF_A_KIND : Tok} {tk_MOST_REGISTERS : Tok} {tk_MOST_TOLD : Tok} {tk_MOST_ROWS : Tok} {tk_LETTERS : Tok} {tod_LAST : Option Addr} {tit_LAST : Array Value} {tn_LAST : Nat} {tsl_LAST : Array (Option Value)} {tod_COMPARING : Option Addr} {tit_COMPARING : Array Value} {tn_COMPARING : Nat} {tsl_COMPARING : Array (Option Value)} {tod_RESERVED : Option Addr} {tit_RESERVED : Array Value} {tn_RESERVED : Nat} {tsl_RESERVED : Array (Option Value)}
    (a_Unit : PySem.W.nsIn K mainGlobals "Unit" = some (some (.ref C)))
    (a1 : PySem.W.findIn K (.ref C) "__init__" = some (some (.ref f1)))
    (i1 : PySem.W.isFn K (.ref f1) = true)
    (l1 : K.lookup f1 = some ⟨oc1, od1, .func (PySem.W.fnOf "__init__" "Unit.__init__" (defArgs s_Unit___init__) (defBody s_Unit___init__) (defScope s_Unit___init__) .none kV1 dc1 pm1 an1 cd1 ct1), sl1⟩)
    (c1 : PySem.W.codeIn K cd1 "Unit.__init__" = true)
    (k1 : PySem.W.keepIn K (.ref f1) = true)
    (pg_Unit : PySem.W.plainGet K C Str.empty = true)
    (hd_Unit : PySem.W.hasDictIn K C = true)
    (po_Unit : PySem.W.plainOver K C = true)
    (sa_Unit : PySem.W.findIn K (.ref C) "__setattr__" = some (some (.builtin "object.__setattr__")))
    (mk_Unit : PySem.W.makesIn K C = true)
    (kc_Unit : PySem.W.keepIn K (.ref C) = true)
    (t_name : PySem.W.findIn K (.ref C) "name" = some none)
    (t_parameters : PySem.W.findIn K (.ref C) "parameters" = some none)
    (t_needs : PySem.W.findIn K (.ref C) "needs" = some none)
    (t_gives : PySem.W.findIn K (.ref C) "gives" = some none)
    (t_falls : PySem.W.findIn K (.ref C) "falls" = some none)
    (t_changes : PySem.W.findIn K (.ref C) "changes" = some none)
    (t_uses : PySem.W.findIn K (.ref C) "uses" = some none)
    (t_registers : PySem.W.findIn K (.ref C) "registers" = some none)
    (t_rows : PySem.W.findIn K (.ref C) "rows" = some none)
    (a_Scope : PySem.W.nsIn K mainGlobals "Scope" = some (some (.ref S)))
    (a2 : PySem.W.findIn K (.ref S) "__init__" = some (some (.ref f2)))
    (i2 : PySem.W.isFn K (.ref f2) = true)
    (l2 : K.lookup f2 = some ⟨oc2, od2, .func (PySem.W.fnOf "__init__" "Scope.__init__" (defArgs s_Scope___init__) (defBody s_Scope___init__) (defScope s_Scope___init__) .none kV2 dc2 pm2 an2 cd2 ct2), sl2⟩)
    (c2 : PySem.W.codeIn K cd2 "Scope.__init__" = true)
    (k2 : PySem.W.keepIn K (.ref f2) = true)
    (pg_Scope : PySem.W.plainGet K S Str.empty = true)
    (hd_Scope : PySem.W.hasDictIn K S = true)
    (po_Scope : PySem.W.plainOver K S = true)
    (sa_Scope : PySem.W.findIn K (.ref S) "__setattr__" = some (some (.builtin "object.__setattr__")))
    (mk_Scope : PySem.W.makesIn K S = true)
    (kc_Scope : PySem.W.keepIn K (.ref S) = true)
    (t_numbers : PySem.W.findIn K (.ref S) "numbers" = some none)
    (t_lists : PySem.W.findIn K (.ref S) "lists" = some none)
    (t_olds : PySem.W.findIn K (.ref S) "olds" = some none)
    (a_Head : PySem.W.nsIn K mainGlobals "Head" = some (some (.ref aH)))
    (pa3 : PySem.W.findIn K (.ref C) "number_names" = some (some (.ref p3)))
    (pg3 : PySem.W.specialIn K (.ref p3) "__get__" = some (some (.builtin "property.__get__")))
    (pt3 : PySem.W.takesIn K (.ref p3) = some true)
    (pr3 : PySem.W.recIn K p3 "property" = some (.ref f3 :: r3))
    (l3 : K.lookup f3 = some ⟨oc3, od3, .func (PySem.W.fnOf "number_names" "Unit.number_names" (defArgs s_Unit_number_names) (defBody s_Unit_number_names) (defScope s_Unit_number_names) .none kV3 dc3 pm3 an3 cd3 ct3), sl3⟩)
    (c3 : PySem.W.codeIn K cd3 "Unit.number_names" = true)
    (k3 : PySem.W.keepIn K (.ref f3) = true)
    (pa4 : PySem.W.findIn K (.ref C) "list_names" = some (some (.ref p4)))
    (pg4 : PySem.W.specialIn K (.ref p4) "__get__" = some (some (.builtin "property.__get__")))
    (pt4 : PySem.W.takesIn K (.ref p4) = some true)
    (pr4 : PySem.W.recIn K p4 "property" = some (.ref f4 :: r4))
    (l4 : K.lookup f4 = some ⟨oc4, od4, .func (PySem.W.fnOf "list_names" "Unit.list_names" (defArgs s_Unit_list_names) (defBody s_Unit_list_names) (defScope s_Unit_list_names) .none kV4 dc4 pm4 an4 cd4 ct4), sl4⟩)
    (c4 : PySem.W.codeIn K cd4 "Unit.list_names" = true)
    (k4 : PySem.W.keepIn K (.ref f4) = true)
    (a5 : PySem.W.findIn K (.ref C) "used" = some (some (.ref f5)))
    (i5 : PySem.W.isFn K (.ref f5) = true)
    (l5 : K.lookup f5 = some ⟨oc5, od5, .func (PySem.W.fnOf "used" "Unit.used" (defArgs s_Unit_used) (defBody s_Unit_used) (defScope s_Unit_used) .none kV5 dc5 pm5 an5 cd5 ct5), sl5⟩)
    (c5 : PySem.W.codeIn K cd5 "Unit.used" = true)
    (k5 : PySem.W.keepIn K (.ref f5) = true)
    (a_BadUnit : PySem.W.nsIn K mainGlobals "BadUnit" = some (some (.ref CB)))
    (x_cls : K.lookup CB = some (excClassObj xnm xq CB xN xbs xbm true xsn xsub xab xcol xdd xk0 xk1 xk2 xk3 xk5 "ValueError.__new__"))
    (x_ref : PySem.HandSPX.refsVE xbm = true)
    (x_sa : PySem.W.findIn K (.ref CB) "__setattr__" = some (some (.builtin "object.__setattr__")))
    (x_ex : PySem.W.subIn K (.ref CB) (.type "BaseException") = some true)
    (x_ty : PySem.W.typeIn K (.ref CB) = some (.type "type"))
    (x_kc : PySem.W.keepIn K (.ref CB) = true)
    (x_ga : PySem.W.findIn K (.ref CB) "__getattribute__" = some (some (.builtin "BaseException.__getattribute__")))
    (x_gg : PySem.W.findIn K (.ref CB) "__getattr__" = some none)
    (x_hd : PySem.W.hasDictIn K CB = true)
    (x_no : PySem.W.findIn K (.ref CB) "at" = some none)
    (x_me : PySem.W.exmOne K (.ref CB) (.ref CB) = some true)
    (a6 : PySem.W.findIn K (.ref CB) "__init__" = some (some (.ref f6)))
    (t6 : PySem.W.typeIn K (.ref f6) = some (.type "function"))
    (l6 : K.lookup f6 = some ⟨oc6, od6, .func (PySem.W.fnOf "__init__" "BadUnit.__init__" (defArgs s_BadUnit___init__) (defBody s_BadUnit___init__) (defScope s_BadUnit___init__) .none kV6 dc6 pm6 an6 cd6 ct6), sl6⟩)
    (c6 : PySem.W.codeIn K cd6 "BadUnit.__init__" = true)
    (k6 : PySem.W.keepIn K (.ref f6) = true)
    (a7 : PySem.W.nsIn K mainGlobals "steps_from" = some (some (.ref f7)))
    (l7 : K.lookup f7 = some ⟨oc7, od7, .func (PySem.W.fnOf "steps_from" "steps_from" (defArgs s_steps_from) (defBody s_steps_from) (defScope s_steps_from) .none kV7 dc7 pm7 an7 cd7 ct7), sl7⟩)
    (c7 : PySem.W.codeIn K cd7 "steps_from" = true)
    (k7 : PySem.W.keepIn K (.ref f7) = true)
    (a8 : PySem.W.nsIn K mainGlobals "next_rows" = some (some (.ref f8)))
    (l8 : K.lookup f8 = some ⟨oc8, od8, .func (PySem.W.fnOf "next_rows" "next_rows" (defArgs s_next_rows) (defBody s_next_rows) (defScope s_next_rows) .none kV8 dc8 pm8 an8 cd8 ct8), sl8⟩)
    (c8 : PySem.W.codeIn K cd8 "next_rows" = true)
    (k8 : PySem.W.keepIn K (.ref f8) = true)
    (a9 : PySem.W.nsIn K mainGlobals "is_back" = some (some (.ref f9)))
    (l9 : K.lookup f9 = some ⟨oc9, od9, .func (PySem.W.fnOf "is_back" "is_back" (defArgs s_is_back) (defBody s_is_back) (defScope s_is_back) .none kV9 dc9 pm9 an9 cd9 ct9), sl9⟩)
    (c9 : PySem.W.codeIn K cd9 "is_back" = true)
    (k9 : PySem.W.keepIn K (.ref f9) = true)
    (a10 : PySem.W.nsIn K mainGlobals "count_ways" = some (some (.ref f10)))
    (l10 : K.lookup f10 = some ⟨oc10, od10, .func (PySem.W.fnOf "count_ways" "count_ways" (defArgs s_count_ways) (defBody s_count_ways) (defScope s_count_ways) .none kV10 dc10 pm10 an10 cd10 ct10), sl10⟩)
    (c10 : PySem.W.codeIn K cd10 "count_ways" = true)
    (k10 : PySem.W.keepIn K (.ref f10) = true)
    (a11 : PySem.W.nsIn K mainGlobals "told_ahead" = some (some (.ref f11)))
    (l11 : K.lookup f11 = some ⟨oc11, od11, .func (PySem.W.fnOf "told_ahead" "told_ahead" (defArgs s_told_ahead) (defBody s_told_ahead) (defScope s_told_ahead) .none kV11 dc11 pm11 an11 cd11 ct11), sl11⟩)
    (c11 : PySem.W.codeIn K cd11 "told_ahead" = true)
    (k11 : PySem.W.keepIn K (.ref f11) = true)
    (a12 : PySem.W.nsIn K mainGlobals "standing_ahead" = some (some (.ref f12)))
    (l12 : K.lookup f12 = some ⟨oc12, od12, .func (PySem.W.fnOf "standing_ahead" "standing_ahead" (defArgs s_standing_ahead) (defBody s_standing_ahead) (defScope s_standing_ahead) .none kV12 dc12 pm12 an12 cd12 ct12), sl12⟩)
    (c12 : PySem.W.codeIn K cd12 "standing_ahead" = true)
    (k12 : PySem.W.keepIn K (.ref f12) = true)
    (a13 : PySem.W.nsIn K mainGlobals "rows_come_to" = some (some (.ref f13)))
    (l13 : K.lookup f13 = some ⟨oc13, od13, .func (PySem.W.fnOf "rows_come_to" "rows_come_to" (defArgs s_rows_come_to) (defBody s_rows_come_to) (defScope s_rows_come_to) .none kV13 dc13 pm13 an13 cd13 ct13), sl13⟩)
    (c13 : PySem.W.codeIn K cd13 "rows_come_to" = true)
    (k13 : PySem.W.keepIn K (.ref f13) = true)
    (a14 : PySem.W.nsIn K mainGlobals "round_rows" = some (some (.ref f14)))
    (l14 : K.lookup f14 = some ⟨oc14, od14, .func (PySem.W.fnOf "round_rows" "round_rows" (defArgs s_round_rows) (defBody s_round_rows) (defScope s_round_rows) .none kV14 dc14 pm14 an14 cd14 ct14), sl14⟩)
    (c14 : PySem.W.codeIn K cd14 "round_rows" = true)
    (k14 : PySem.W.keepIn K (.ref f14) = true)
    (a15 : PySem.W.nsIn K mainGlobals "names_of_plain" = some (some (.ref f15)))
    (l15 : K.lookup f15 = some ⟨oc15, od15, .func (PySem.W.fnOf "names_of_plain" "names_of_plain" (defArgs s_names_of_plain) (defBody s_names_of_plain) (defScope s_names_of_plain) .none kV15 dc15 pm15 an15 cd15 ct15), sl15⟩)
    (c15 : PySem.W.codeIn K cd15 "names_of_plain" = true)
    (k15 : PySem.W.keepIn K (.ref f15) = true)
    (a16 : PySem.W.nsIn K mainGlobals "names_of_term" = some (some (.ref f16)))
    (l16 : K.lookup f16 = some ⟨oc16, od16, .func (PySem.W.fnOf "names_of_term" "names_of_term" (defArgs s_names_of_term) (defBody s_names_of_term) (defScope s_names_of_term) .none kV16 dc16 pm16 an16 cd16 ct16), sl16⟩)
    (c16 : PySem.W.codeIn K cd16 "names_of_term" = true)
    (k16 : PySem.W.keepIn K (.ref f16) = true)
    (a17 : PySem.W.nsIn K mainGlobals "names_of_comparison" = some (some (.ref f17)))
    (l17 : K.lookup f17 = some ⟨oc17, od17, .func (PySem.W.fnOf "names_of_comparison" "names_of_comparison" (defArgs s_names_of_comparison) (defBody s_names_of_comparison) (defScope s_names_of_comparison) .none kV17 dc17 pm17 an17 cd17 ct17), sl17⟩)
    (c17 : PySem.W.codeIn K cd17 "names_of_comparison" = true)
    (k17 : PySem.W.keepIn K (.ref f17) = true)
    (a18 : PySem.W.nsIn K mainGlobals "names_of_promise" = some (some (.ref f18)))
    (l18 : K.lookup f18 = some ⟨oc18, od18, .func (PySem.W.fnOf "names_of_promise" "names_of_promise" (defArgs s_names_of_promise) (defBody s_names_of_promise) (defScope s_names_of_promise) .none kV18 dc18 pm18 an18 cd18 ct18), sl18⟩)
    (c18 : PySem.W.codeIn K cd18 "names_of_promise" = true)
    (k18 : PySem.W.keepIn K (.ref f18) = true)
    (a19 : PySem.W.nsIn K mainGlobals "names_of_mark" = some (some (.ref f19)))
    (l19 : K.lookup f19 = some ⟨oc19, od19, .func (PySem.W.fnOf "names_of_mark" "names_of_mark" (defArgs s_names_of_mark) (defBody s_names_of_mark) (defScope s_names_of_mark) .none kV19 dc19 pm19 an19 cd19 ct19), sl19⟩)
    (c19 : PySem.W.codeIn K cd19 "names_of_mark" = true)
    (k19 : PySem.W.keepIn K (.ref f19) = true)
    (a20 : PySem.W.nsIn K mainGlobals "names_of_call" = some (some (.ref f20)))
    (l20 : K.lookup f20 = some ⟨oc20, od20, .func (PySem.W.fnOf "names_of_call" "names_of_call" (defArgs s_names_of_call) (defBody s_names_of_call) (defScope s_names_of_call) .none kV20 dc20 pm20 an20 cd20 ct20), sl20⟩)
    (c20 : PySem.W.codeIn K cd20 "names_of_call" = true)
    (k20 : PySem.W.keepIn K (.ref f20) = true)
    (a21 : PySem.W.nsIn K mainGlobals "names_read" = some (some (.ref f21)))
    (l21 : K.lookup f21 = some ⟨oc21, od21, .func (PySem.W.fnOf "names_read" "names_read" (defArgs s_names_read) (defBody s_names_read) (defScope s_names_read) .none kV21 dc21 pm21 an21 cd21 ct21), sl21⟩)
    (c21 : PySem.W.codeIn K cd21 "names_read" = true)
    (k21 : PySem.W.keepIn K (.ref f21) = true)
    (a22 : PySem.W.nsIn K mainGlobals "reads" = some (some (.ref f22)))
    (l22 : K.lookup f22 = some ⟨oc22, od22, .func (PySem.W.fnOf "reads" "reads" (defArgs s_reads) (defBody s_reads) (defScope s_reads) .none kV22 dc22 pm22 an22 cd22 ct22), sl22⟩)
    (c22 : PySem.W.codeIn K cd22 "reads" = true)
    (k22 : PySem.W.keepIn K (.ref f22) = true)
    (a23 : PySem.W.nsIn K mainGlobals "given_by" = some (some (.ref f23)))
    (l23 : K.lookup f23 = some ⟨oc23, od23, .func (PySem.W.fnOf "given_by" "given_by" (defArgs s_given_by) (defBody s_given_by) (defScope s_given_by) .none kV23 dc23 pm23 an23 cd23 ct23), sl23⟩)
    (c23 : PySem.W.codeIn K cd23 "given_by" = true)
    (k23 : PySem.W.keepIn K (.ref f23) = true)
    (a24 : PySem.W.nsIn K mainGlobals "behind_run" = some (some (.ref f24)))
    (l24 : K.lookup f24 = some ⟨oc24, od24, .func (PySem.W.fnOf "behind_run" "behind_run" (defArgs s_behind_run) (defBody s_behind_run) (defScope s_behind_run) .none kV24 dc24 pm24 an24 cd24 ct24), sl24⟩)
    (c24 : PySem.W.codeIn K cd24 "behind_run" = true)
    (k24 : PySem.W.keepIn K (.ref f24) = true)
    (a25 : PySem.W.nsIn K mainGlobals "is_name" = some (some (.ref f25)))
    (l25 : K.lookup f25 = some ⟨oc25, od25, .func (PySem.W.fnOf "is_name" "is_name" (defArgs s_is_name) (defBody s_is_name) (defScope s_is_name) .none kV25 dc25 pm25 an25 cd25 ct25), sl25⟩)
    (c25 : PySem.W.codeIn K cd25 "is_name" = true)
    (k25 : PySem.W.keepIn K (.ref f25) = true)
    (a26 : PySem.W.nsIn K mainGlobals "is_word" = some (some (.ref f26)))
    (l26 : K.lookup f26 = some ⟨oc26, od26, .func (PySem.W.fnOf "is_word" "is_word" (defArgs s_is_word) (defBody s_is_word) (defScope s_is_word) .none kV26 dc26 pm26 an26 cd26 ct26), sl26⟩)
    (c26 : PySem.W.codeIn K cd26 "is_word" = true)
    (k26 : PySem.W.keepIn K (.ref f26) = true)
    (a27 : PySem.W.nsIn K mainGlobals "is_small" = some (some (.ref f27)))
    (l27 : K.lookup f27 = some ⟨oc27, od27, .func (PySem.W.fnOf "is_small" "is_small" (defArgs s_is_small) (defBody s_is_small) (defScope s_is_small) .none kV27 dc27 pm27 an27 cd27 ct27), sl27⟩)
    (c27 : PySem.W.codeIn K cd27 "is_small" = true)
    (k27 : PySem.W.keepIn K (.ref f27) = true)
    (a28 : PySem.W.nsIn K mainGlobals "shaped" = some (some (.ref f28)))
    (l28 : K.lookup f28 = some ⟨oc28, od28, .func (PySem.W.fnOf "shaped" "shaped" (defArgs s_shaped) (defBody s_shaped) (defScope s_shaped) .none kV28 dc28 pm28 an28 cd28 ct28), sl28⟩)
    (c28 : PySem.W.codeIn K cd28 "shaped" = true)
    (k28 : PySem.W.keepIn K (.ref f28) = true)
    (a29 : PySem.W.nsIn K mainGlobals "plain_fits" = some (some (.ref f29)))
    (l29 : K.lookup f29 = some ⟨oc29, od29, .func (PySem.W.fnOf "plain_fits" "plain_fits" (defArgs s_plain_fits) (defBody s_plain_fits) (defScope s_plain_fits) .none kV29 dc29 pm29 an29 cd29 ct29), sl29⟩)
    (c29 : PySem.W.codeIn K cd29 "plain_fits" = true)
    (k29 : PySem.W.keepIn K (.ref f29) = true)
    (a30 : PySem.W.nsIn K mainGlobals "list_fits" = some (some (.ref f30)))
    (l30 : K.lookup f30 = some ⟨oc30, od30, .func (PySem.W.fnOf "list_fits" "list_fits" (defArgs s_list_fits) (defBody s_list_fits) (defScope s_list_fits) .none kV30 dc30 pm30 an30 cd30 ct30), sl30⟩)
    (c30 : PySem.W.codeIn K cd30 "list_fits" = true)
    (k30 : PySem.W.keepIn K (.ref f30) = true)
    (a31 : PySem.W.nsIn K mainGlobals "term_fits" = some (some (.ref f31)))
    (l31 : K.lookup f31 = some ⟨oc31, od31, .func (PySem.W.fnOf "term_fits" "term_fits" (defArgs s_term_fits) (defBody s_term_fits) (defScope s_term_fits) .none kV31 dc31 pm31 an31 cd31 ct31), sl31⟩)
    (c31 : PySem.W.codeIn K cd31 "term_fits" = true)
    (k31 : PySem.W.keepIn K (.ref f31) = true)
    (a32 : PySem.W.nsIn K mainGlobals "range_fits" = some (some (.ref f32)))
    (l32 : K.lookup f32 = some ⟨oc32, od32, .func (PySem.W.fnOf "range_fits" "range_fits" (defArgs s_range_fits) (defBody s_range_fits) (defScope s_range_fits) .none kV32 dc32 pm32 an32 cd32 ct32), sl32⟩)
    (c32 : PySem.W.codeIn K cd32 "range_fits" = true)
    (k32 : PySem.W.keepIn K (.ref f32) = true)
    (a33 : PySem.W.nsIn K mainGlobals "falls_fits" = some (some (.ref f33)))
    (l33 : K.lookup f33 = some ⟨oc33, od33, .func (PySem.W.fnOf "falls_fits" "falls_fits" (defArgs s_falls_fits) (defBody s_falls_fits) (defScope s_falls_fits) .none kV33 dc33 pm33 an33 cd33 ct33), sl33⟩)
    (c33 : PySem.W.codeIn K cd33 "falls_fits" = true)
    (k33 : PySem.W.keepIn K (.ref f33) = true)
    (a34 : PySem.W.nsIn K mainGlobals "comparison_fits" = some (some (.ref f34)))
    (l34 : K.lookup f34 = some ⟨oc34, od34, .func (PySem.W.fnOf "comparison_fits" "comparison_fits" (defArgs s_comparison_fits) (defBody s_comparison_fits) (defScope s_comparison_fits) .none kV34 dc34 pm34 an34 cd34 ct34), sl34⟩)
    (c34 : PySem.W.codeIn K cd34 "comparison_fits" = true)
    (k34 : PySem.W.keepIn K (.ref f34) = true)
    (a35 : PySem.W.nsIn K mainGlobals "promise_fits" = some (some (.ref f35)))
    (l35 : K.lookup f35 = some ⟨oc35, od35, .func (PySem.W.fnOf "promise_fits" "promise_fits" (defArgs s_promise_fits) (defBody s_promise_fits) (defScope s_promise_fits) .none kV35 dc35 pm35 an35 cd35 ct35), sl35⟩)
    (c35 : PySem.W.codeIn K cd35 "promise_fits" = true)
    (k35 : PySem.W.keepIn K (.ref f35) = true)
    (a36 : PySem.W.nsIn K mainGlobals "unlike" = some (some (.ref f36)))
    (l36 : K.lookup f36 = some ⟨oc36, od36, .func (PySem.W.fnOf "unlike" "unlike" (defArgs s_unlike) (defBody s_unlike) (defScope s_unlike) .none kV36 dc36 pm36 an36 cd36 ct36), sl36⟩)
    (c36 : PySem.W.codeIn K cd36 "unlike" = true)
    (k36 : PySem.W.keepIn K (.ref f36) = true)
    (a37 : PySem.W.nsIn K mainGlobals "parameters_fit" = some (some (.ref f37)))
    (l37 : K.lookup f37 = some ⟨oc37, od37, .func (PySem.W.fnOf "parameters_fit" "parameters_fit" (defArgs s_parameters_fit) (defBody s_parameters_fit) (defScope s_parameters_fit) .none kV37 dc37 pm37 an37 cd37 ct37), sl37⟩)
    (c37 : PySem.W.codeIn K cd37 "parameters_fit" = true)
    (k37 : PySem.W.keepIn K (.ref f37) = true)
    (a38 : PySem.W.nsIn K mainGlobals "promises_fit" = some (some (.ref f38)))
    (l38 : K.lookup f38 = some ⟨oc38, od38, .func (PySem.W.fnOf "promises_fit" "promises_fit" (defArgs s_promises_fit) (defBody s_promises_fit) (defScope s_promises_fit) .none kV38 dc38 pm38 an38 cd38 ct38), sl38⟩)
    (c38 : PySem.W.codeIn K cd38 "promises_fit" = true)
    (k38 : PySem.W.keepIn K (.ref f38) = true)
    (a39 : PySem.W.nsIn K mainGlobals "head_fits" = some (some (.ref f39)))
    (l39 : K.lookup f39 = some ⟨oc39, od39, .func (PySem.W.fnOf "head_fits" "head_fits" (defArgs s_head_fits) (defBody s_head_fits) (defScope s_head_fits) .none kV39 dc39 pm39 an39 cd39 ct39), sl39⟩)
    (c39 : PySem.W.codeIn K cd39 "head_fits" = true)
    (k39 : PySem.W.keepIn K (.ref f39) = true)
    (a40 : PySem.W.nsIn K mainGlobals "uses_fit" = some (some (.ref f40)))
    (l40 : K.lookup f40 = some ⟨oc40, od40, .func (PySem.W.fnOf "uses_fit" "uses_fit" (defArgs s_uses_fit) (defBody s_uses_fit) (defScope s_uses_fit) .none kV40 dc40 pm40 an40 cd40 ct40), sl40⟩)
    (c40 : PySem.W.codeIn K cd40 "uses_fit" = true)
    (k40 : PySem.W.keepIn K (.ref f40) = true)
    (a41 : PySem.W.nsIn K mainGlobals "front_fits" = some (some (.ref f41)))
    (l41 : K.lookup f41 = some ⟨oc41, od41, .func (PySem.W.fnOf "front_fits" "front_fits" (defArgs s_front_fits) (defBody s_front_fits) (defScope s_front_fits) .none kV41 dc41 pm41 an41 cd41 ct41), sl41⟩)
    (c41 : PySem.W.codeIn K cd41 "front_fits" = true)
    (k41 : PySem.W.keepIn K (.ref f41) = true)
    (a42 : PySem.W.nsIn K mainGlobals "target_fits" = some (some (.ref f42)))
    (l42 : K.lookup f42 = some ⟨oc42, od42, .func (PySem.W.fnOf "target_fits" "target_fits" (defArgs s_target_fits) (defBody s_target_fits) (defScope s_target_fits) .none kV42 dc42 pm42 an42 cd42 ct42), sl42⟩)
    (c42 : PySem.W.codeIn K cd42 "target_fits" = true)
    (k42 : PySem.W.keepIn K (.ref f42) = true)
    (a43 : PySem.W.nsIn K mainGlobals "call_fits" = some (some (.ref f43)))
    (l43 : K.lookup f43 = some ⟨oc43, od43, .func (PySem.W.fnOf "call_fits" "call_fits" (defArgs s_call_fits) (defBody s_call_fits) (defScope s_call_fits) .none kV43 dc43 pm43 an43 cd43 ct43), sl43⟩)
    (c43 : PySem.W.codeIn K cd43 "call_fits" = true)
    (k43 : PySem.W.keepIn K (.ref f43) = true)
    (a44 : PySem.W.nsIn K mainGlobals "mark_fits" = some (some (.ref f44)))
    (l44 : K.lookup f44 = some ⟨oc44, od44, .func (PySem.W.fnOf "mark_fits" "mark_fits" (defArgs s_mark_fits) (defBody s_mark_fits) (defScope s_mark_fits) .none kV44 dc44 pm44 an44 cd44 ct44), sl44⟩)
    (c44 : PySem.W.codeIn K cd44 "mark_fits" = true)
    (k44 : PySem.W.keepIn K (.ref f44) = true)
    (a45 : PySem.W.nsIn K mainGlobals "giving_fits" = some (some (.ref f45)))
    (l45 : K.lookup f45 = some ⟨oc45, od45, .func (PySem.W.fnOf "giving_fits" "giving_fits" (defArgs s_giving_fits) (defBody s_giving_fits) (defScope s_giving_fits) .none kV45 dc45 pm45 an45 cd45 ct45), sl45⟩)
    (c45 : PySem.W.codeIn K cd45 "giving_fits" = true)
    (k45 : PySem.W.keepIn K (.ref f45) = true)
    (a46 : PySem.W.nsIn K mainGlobals "parts_fit" = some (some (.ref f46)))
    (l46 : K.lookup f46 = some ⟨oc46, od46, .func (PySem.W.fnOf "parts_fit" "parts_fit" (defArgs s_parts_fit) (defBody s_parts_fit) (defScope s_parts_fit) .none kV46 dc46 pm46 an46 cd46 ct46), sl46⟩)
    (c46 : PySem.W.codeIn K cd46 "parts_fit" = true)
    (k46 : PySem.W.keepIn K (.ref f46) = true)
    (a47 : PySem.W.nsIn K mainGlobals "row_fits" = some (some (.ref f47)))
    (l47 : K.lookup f47 = some ⟨oc47, od47, .func (PySem.W.fnOf "row_fits" "row_fits" (defArgs s_row_fits) (defBody s_row_fits) (defScope s_row_fits) .none kV47 dc47 pm47 an47 cd47 ct47), sl47⟩)
    (c47 : PySem.W.codeIn K cd47 "row_fits" = true)
    (k47 : PySem.W.keepIn K (.ref f47) = true)
    (a48 : PySem.W.nsIn K mainGlobals "changed_by" = some (some (.ref f48)))
    (l48 : K.lookup f48 = some ⟨oc48, od48, .func (PySem.W.fnOf "changed_by" "changed_by" (defArgs s_changed_by) (defBody s_changed_by) (defScope s_changed_by) .none kV48 dc48 pm48 an48 cd48 ct48), sl48⟩)
    (c48 : PySem.W.codeIn K cd48 "changed_by" = true)
    (k48 : PySem.W.keepIn K (.ref f48) = true)
    (a49 : PySem.W.nsIn K mainGlobals "values_by" = some (some (.ref f49)))
    (l49 : K.lookup f49 = some ⟨oc49, od49, .func (PySem.W.fnOf "values_by" "values_by" (defArgs s_values_by) (defBody s_values_by) (defScope s_values_by) .none kV49 dc49 pm49 an49 cd49 ct49), sl49⟩)
    (c49 : PySem.W.codeIn K cd49 "values_by" = true)
    (k49 : PySem.W.keepIn K (.ref f49) = true)
    (a50 : PySem.W.nsIn K mainGlobals "names_fit" = some (some (.ref f50)))
    (l50 : K.lookup f50 = some ⟨oc50, od50, .func (PySem.W.fnOf "names_fit" "names_fit" (defArgs s_names_fit) (defBody s_names_fit) (defScope s_names_fit) .none kV50 dc50 pm50 an50 cd50 ct50), sl50⟩)
    (c50 : PySem.W.codeIn K cd50 "names_fit" = true)
    (k50 : PySem.W.keepIn K (.ref f50) = true)
    (a51 : PySem.W.nsIn K mainGlobals "steps_back_fit" = some (some (.ref f51)))
    (l51 : K.lookup f51 = some ⟨oc51, od51, .func (PySem.W.fnOf "steps_back_fit" "steps_back_fit" (defArgs s_steps_back_fit) (defBody s_steps_back_fit) (defScope s_steps_back_fit) .none kV51 dc51 pm51 an51 cd51 ct51), sl51⟩)
    (c51 : PySem.W.codeIn K cd51 "steps_back_fit" = true)
    (k51 : PySem.W.keepIn K (.ref f51) = true)
    (a52 : PySem.W.nsIn K mainGlobals "place_fits" = some (some (.ref f52)))
    (l52 : K.lookup f52 = some ⟨oc52, od52, .func (PySem.W.fnOf "place_fits" "place_fits" (defArgs s_place_fits) (defBody s_place_fits) (defScope s_place_fits) .none kV52 dc52 pm52 an52 cd52 ct52), sl52⟩)
    (c52 : PySem.W.codeIn K cd52 "place_fits" = true)
    (k52 : PySem.W.keepIn K (.ref f52) = true)
    (a53 : PySem.W.nsIn K mainGlobals "wrong_at" = some (some (.ref f53)))
    (l53 : K.lookup f53 = some ⟨oc53, od53, .func (PySem.W.fnOf "wrong_at" "wrong_at" (defArgs s_wrong_at) (defBody s_wrong_at) (defScope s_wrong_at) .none kV53 dc53 pm53 an53 cd53 ct53), sl53⟩)
    (c53 : PySem.W.codeIn K cd53 "wrong_at" = true)
    (k53 : PySem.W.keepIn K (.ref f53) = true)
    (a54 : PySem.W.nsIn K mainGlobals "check_unit" = some (some (.ref f54)))
    (l54 : K.lookup f54 = some ⟨oc54, od54, .func (PySem.W.fnOf "check_unit" "check_unit" (defArgs s_check_unit) (defBody s_check_unit) (defScope s_check_unit) .none kV54 dc54 pm54 an54 cd54 ct54), sl54⟩)
    (c54 : PySem.W.codeIn K cd54 "check_unit" = true)
    (k54 : PySem.W.keepIn K (.ref f54) = true)
    (a55 : PySem.W.nsIn K mainGlobals "is_good_unit" = some (some (.ref f55)))
    (l55 : K.lookup f55 = some ⟨oc55, od55, .func (PySem.W.fnOf "is_good_unit" "is_good_unit" (defArgs s_is_good_unit) (defBody s_is_good_unit) (defScope s_is_good_unit) .none kV55 dc55 pm55 an55 cd55 ct55), sl55⟩)
    (c55 : PySem.W.codeIn K cd55 "is_good_unit" = true)
    (k55 : PySem.W.keepIn K (.ref f55) = true)
    (a56 : PySem.W.nsIn K mainGlobals "_law_well" = some (some (.ref f56)))
    (l56 : K.lookup f56 = some ⟨oc56, od56, .func (PySem.W.fnOf "_law_well" "_law_well" (defArgs s__law_well) (defBody s__law_well) (defScope s__law_well) .none kV56 dc56 pm56 an56 cd56 ct56), sl56⟩)
    (c56 : PySem.W.codeIn K cd56 "_law_well" = true)
    (k56 : PySem.W.keepIn K (.ref f56) = true)
    (a57 : PySem.W.nsIn K mainGlobals "_law_draw" = some (some (.ref f57)))
    (l57 : K.lookup f57 = some ⟨oc57, od57, .func (PySem.W.fnOf "_law_draw" "_law_draw" (defArgs s__law_draw) (defBody s__law_draw) (defScope s__law_draw) .none kV57 dc57 pm57 an57 cd57 ct57), sl57⟩)
    (c57 : PySem.W.codeIn K cd57 "_law_draw" = true)
    (k57 : PySem.W.keepIn K (.ref f57) = true)
    (a58 : PySem.W.nsIn K mainGlobals "_law_pick" = some (some (.ref f58)))
    (l58 : K.lookup f58 = some ⟨oc58, od58, .func (PySem.W.fnOf "_law_pick" "_law_pick" (defArgs s__law_pick) (defBody s__law_pick) (defScope s__law_pick) .none kV58 dc58 pm58 an58 cd58 ct58), sl58⟩)
    (c58 : PySem.W.codeIn K cd58 "_law_pick" = true)
    (k58 : PySem.W.keepIn K (.ref f58) = true)
    (a59 : PySem.W.nsIn K mainGlobals "_law_chain" = some (some (.ref f59)))
    (l59 : K.lookup f59 = some ⟨oc59, od59, .func (PySem.W.fnOf "_law_chain" "_law_chain" (defArgs s__law_chain) (defBody s__law_chain) (defScope s__law_chain) .none kV59 dc59 pm59 an59 cd59 ct59), sl59⟩)
    (c59 : PySem.W.codeIn K cd59 "_law_chain" = true)
    (k59 : PySem.W.keepIn K (.ref f59) = true)
    (a60 : PySem.W.nsIn K mainGlobals "_law_rows" = some (some (.ref f60)))
    (l60 : K.lookup f60 = some ⟨oc60, od60, .func (PySem.W.fnOf "_law_rows" "_law_rows" (defArgs s__law_rows) (defBody s__law_rows) (defScope s__law_rows) .none kV60 dc60 pm60 an60 cd60 ct60), sl60⟩)
    (c60 : PySem.W.codeIn K cd60 "_law_rows" = true)
    (k60 : PySem.W.keepIn K (.ref f60) = true)
    (a61 : PySem.W.nsIn K mainGlobals "_law_unit_of" = some (some (.ref f61)))
    (l61 : K.lookup f61 = some ⟨oc61, od61, .func (PySem.W.fnOf "_law_unit_of" "_law_unit_of" (defArgs s__law_unit_of) (defBody s__law_unit_of) (defScope s__law_unit_of) .none kV61 dc61 pm61 an61 cd61 ct61), sl61⟩)
    (c61 : PySem.W.codeIn K cd61 "_law_unit_of" = true)
    (k61 : PySem.W.keepIn K (.ref f61) = true)
    (a62 : PySem.W.nsIn K mainGlobals "_law_verdict" = some (some (.ref f62)))
    (l62 : K.lookup f62 = some ⟨oc62, od62, .func (PySem.W.fnOf "_law_verdict" "_law_verdict" (defArgs s__law_verdict) (defBody s__law_verdict) (defScope s__law_verdict) .none kV62 dc62 pm62 an62 cd62 ct62), sl62⟩)
    (c62 : PySem.W.codeIn K cd62 "_law_verdict" = true)
    (k62 : PySem.W.keepIn K (.ref f62) = true)
    (a63 : PySem.W.nsIn K mainGlobals "_law_spoilt" = some (some (.ref f63)))
    (l63 : K.lookup f63 = some ⟨oc63, od63, .func (PySem.W.fnOf "_law_spoilt" "_law_spoilt" (defArgs s__law_spoilt) (defBody s__law_spoilt) (defScope s__law_spoilt) .none kV63 dc63 pm63 an63 cd63 ct63), sl63⟩)
    (c63 : PySem.W.codeIn K cd63 "_law_spoilt" = true)
    (k63 : PySem.W.keepIn K (.ref f63) = true)
    (a64 : PySem.W.nsIn K mainGlobals "law" = some (some (.ref f64)))
    (l64 : K.lookup f64 = some ⟨oc64, od64, .func (PySem.W.fnOf "law" "law" (defArgs s_law) (defBody s_law) (defScope s_law) .none kV64 dc64 pm64 an64 cd64 ct64), sl64⟩)
    (c64 : PySem.W.codeIn K cd64 "law" = true)
    (k64 : PySem.W.keepIn K (.ref f64) = true)
    (z_len : PySem.W.nsIn K mainGlobals "len" = some none)
    (z_range : PySem.W.nsIn K mainGlobals "range" = some none)
    (z_reversed : PySem.W.nsIn K mainGlobals "reversed" = some none)
    (z_min : PySem.W.nsIn K mainGlobals "min" = some none)
    (z_max : PySem.W.nsIn K mainGlobals "max" = some none)
    (z_tuple : PySem.W.nsIn K mainGlobals "tuple" = some none)
    (z_sum : PySem.W.nsIn K mainGlobals "sum" = some none)
    (z_repr : PySem.W.nsIn K mainGlobals "repr" = some none)
    (z_int : PySem.W.nsIn K mainGlobals "int" = some none)
    (z_abs : PySem.W.nsIn K mainGlobals "abs" = some none)
    (z_enumerate : PySem.W.nsIn K mainGlobals "enumerate" = some none)
    (z_sorted : PySem.W.nsIn K mainGlobals "sorted" = some none)
    (z_list : PySem.W.nsIn K mainGlobals "list" = some none)
    (z_zip : PySem.W.nsIn K mainGlobals "zip" = some none)
    (z_type : PySem.W.nsIn K mainGlobals "type" = some none)
    (z_set : PySem.W.nsIn K mainGlobals "set" = some none)
    (z_str : PySem.W.nsIn K mainGlobals "str" = some none)
    (z_bool : PySem.W.nsIn K mainGlobals "bool" = some none)
    (z_all : PySem.W.nsIn K mainGlobals "all" = some none)
    (z_isinstance : PySem.W.nsIn K mainGlobals "isinstance" = some none)
    (y_MOST_WAYS : PySem.W.nsIn K mainGlobals "MOST_WAYS" = some (some (.int 64 tk_MOST_WAYS)))
    (y_MOST_FAILING_WAYS : PySem.W.nsIn K mainGlobals "MOST_FAILING_WAYS" = some (some (.int 4000 tk_MOST_FAILING_WAYS)))
    (y_MOST_LETTERS : PySem.W.nsIn K mainGlobals "MOST_LETTERS" = some (some (.int 12 tk_MOST_LETTERS)))
    (y_MOST_NUMBER : PySem.W.nsIn K mainGlobals "MOST_NUMBER" = some (some (.int 9999 tk_MOST_NUMBER)))
    (y_MOST_OF_A_KIND : PySem.W.nsIn K mainGlobals "MOST_OF_A_KIND" = some (some (.int 4 tk_MOST_OF_A_KIND)))
    (y_MOST_REGISTERS : PySem.W.nsIn K mainGlobals "MOST_REGISTERS" = some (some (.int 24 tk_MOST_REGISTERS)))
    (y_MOST_TOLD : PySem.W.nsIn K mainGlobals "MOST_TOLD" = some (some (.int 8 tk_MOST_TOLD)))
    (y_MOST_ROWS : PySem.W.nsIn K mainGlobals "MOST_ROWS" = some (some (.int 240 tk_MOST_ROWS)))
    (y_LETTERS : PySem.W.nsIn K mainGlobals "LETTERS" = some (some (.str "abcdefghijklmnopqrstuvwxyz" tk_LETTERS)))
    (y_LAST : PySem.W.nsIn K mainGlobals "LAST" = some (some (.ref aL)))
    (w_LAST : K.lookup aL = some ⟨.type "tuple", tod_LAST, .seq tit_LAST tn_LAST, tsl_LAST⟩)
    (s_LAST : (decide (tit_LAST.size ≤ 1000) && strB tit_LAST.toList ["return", "jump", "fail"]) = true)
    (y_COMPARING : PySem.W.nsIn K mainGlobals "COMPARING" = some (some (.ref aC)))
    (w_COMPARING : K.lookup aC = some ⟨.type "tuple", tod_COMPARING, .seq tit_COMPARING tn_COMPARING, tsl_COMPARING⟩)
    (s_COMPARING : (decide (tit_COMPARING.size ≤ 1000) && strB tit_COMPARING.toList ["<", "<=", ">", ">=", "==", "!="]) = true)
    (y_RESERVED : PySem.W.nsIn K mainGlobals "RESERVED" = some (some (.ref aR)))
    (w_RESERVED : K.lookup aR = some ⟨.type "tuple", tod_RESERVED, .seq tit_RESERVED tn_RESERVED, tsl_RESERVED⟩)
    (s_RESERVED : (decide (tit_RESERVED.size ≤ 1000) && strB tit_RESERVED.toList ["proc", "list", "needs", "gives", "keeps", "falls", "from", "to", "let", "while", "if", "else", "end", "choose", "check", "call", "swap", "return", "skip", "and", "or", "not", "all", "sorted", "below", "either", "len", "old", "moves", "result"]) = true) :
    ∃ fd : FuncData, (∀ (s : Shared) (v : Value), BindsTo s fd ⟨[v], []⟩ [("script", v)]) ∧ ∀ base : Heap, K.In base → base.Ns mainGlobals mg → FnG l.prog w K mg base 13 fa fd ["script"] (spLaw K 63) := by
  have e := hfa.symm.trans (PySem.W.mg_of X G a64)
  cases e
  have T : Txu K mg [C] [S] aL aC aR aH := { at_name := fun c h => by rw [List.mem_singleton.mp h]; exact ⟨⟨pg_Unit, hd_Unit, po_Unit, sa_Unit⟩, t_name⟩, at_parameters := fun c h => by rw [List.mem_singleton.mp h]; exact ⟨⟨pg_Unit, hd_Unit, po_Unit, sa_Unit⟩, t_parameters⟩, at_needs := fun c h => by rw [List.mem_singleton.mp h]; exact ⟨⟨pg_Unit, hd_Unit, po_Unit, sa_Unit⟩, t_needs⟩, at_gives := fun c h => by rw [List.mem_singleton.mp h]; exact ⟨⟨pg_Unit, hd_Unit, po_Unit, sa_Unit⟩, t_gives⟩, at_falls := fun c h => by rw [List.mem_singleton.mp h]; exact ⟨⟨pg_Unit, hd_Unit, po_Unit, sa_Unit⟩, t_falls⟩, at_changes := fun c h => by rw [List.mem_singleton.mp h]; exact ⟨⟨pg_Unit, hd_Unit, po_Unit, sa_Unit⟩, t_changes⟩, at_uses := fun c h => by rw [List.mem_singleton.mp h]; exact ⟨⟨pg_Unit, hd_Unit, po_Unit, sa_Unit⟩, t_uses⟩, at_registers := fun c h => by rw [List.mem_singleton.mp h]; exact ⟨⟨pg_Unit, hd_Unit, po_Unit, sa_Unit⟩, t_registers⟩, at_rows := fun c h => by rw [List.mem_singleton.mp h]; exact ⟨⟨pg_Unit, hd_Unit, po_Unit, sa_Unit⟩, t_rows⟩, at_numbers := fun c h => by rw [List.mem_singleton.mp h]; exact ⟨⟨pg_Scope, hd_Scope, po_Scope, sa_Scope⟩, t_numbers⟩, at_lists := fun c h => by rw [List.mem_singleton.mp h]; exact ⟨⟨pg_Scope, hd_Scope, po_Scope, sa_Scope⟩, t_lists⟩, at_olds := fun c h => by rw [List.mem_singleton.mp h]; exact ⟨⟨pg_Scope, hd_Scope, po_Scope, sa_Scope⟩, t_olds⟩, g_Head := PySem.W.mg_of X G a_Head, n_len := PySem.W.mg_none_of X G z_len, n_range := PySem.W.mg_none_of X G z_range, n_reversed := PySem.W.mg_none_of X G z_reversed, n_min := PySem.W.mg_none_of X G z_min, n_max := PySem.W.mg_none_of X G z_max, n_tuple := PySem.W.mg_none_of X G z_tuple, n_sum := PySem.W.mg_none_of X G z_sum, n_repr := PySem.W.mg_none_of X G z_repr, n_int := PySem.W.mg_none_of X G z_int, n_abs := PySem.W.mg_none_of X G z_abs, n_enumerate := PySem.W.mg_none_of X G z_enumerate, n_sorted := PySem.W.mg_none_of X G z_sorted, n_list := PySem.W.mg_none_of X G z_list, n_zip := PySem.W.mg_none_of X G z_zip, n_type := PySem.W.mg_none_of X G z_type, n_set := PySem.W.mg_none_of X G z_set, n_str := PySem.W.mg_none_of X G z_str, n_bool := PySem.W.mg_none_of X G z_bool, n_all := PySem.W.mg_none_of X G z_all, n_isinstance := PySem.W.mg_none_of X G z_isinstance, g_MOST_WAYS := ⟨_, PySem.W.mg_of X G y_MOST_WAYS⟩, g_MOST_FAILING_WAYS := ⟨_, PySem.W.mg_of X G y_MOST_FAILING_WAYS⟩, g_MOST_LETTERS := ⟨_, PySem.W.mg_of X G y_MOST_LETTERS⟩, g_MOST_NUMBER := ⟨_, PySem.W.mg_of X G y_MOST_NUMBER⟩, g_MOST_OF_A_KIND := ⟨_, PySem.W.mg_of X G y_MOST_OF_A_KIND⟩, g_MOST_REGISTERS := ⟨_, PySem.W.mg_of X G y_MOST_REGISTERS⟩, g_MOST_TOLD := ⟨_, PySem.W.mg_of X G y_MOST_TOLD⟩, g_MOST_ROWS := ⟨_, PySem.W.mg_of X G y_MOST_ROWS⟩, g_LETTERS := ⟨_, PySem.W.mg_of X G y_LETTERS⟩, g_LAST := PySem.W.mg_of X G y_LAST, d_LAST := fun F => tup_ok w_LAST s_LAST, g_COMPARING := PySem.W.mg_of X G y_COMPARING, d_COMPARING := fun F => tup_ok w_COMPARING s_COMPARING, g_RESERVED := PySem.W.mg_of X G y_RESERVED, d_RESERVED := fun F => tup_ok w_RESERVED s_RESERVED }
  have U1 := fun_mk (st := s_Unit___init__) l1 c1 k1
  have B1 := U1.binds (ps := ["self", "name", "parameters", "needs", "gives", "falls", "changes", "uses", "registers", "rows"]) fun _ _ _ _ _ _ us hl => match us, hl with | [_, _, _, _, _, _, _, _, _, _], _ => rfl
  have M_Unit : MakeG K mg "Unit" C f1 _ ["self", "name", "parameters", "needs", "gives", "falls", "changes", "uses", "registers", "rows"] := ⟨⟨mk_Unit, a1, i1, kc_Unit⟩, PySem.W.mg_of X G a_Unit, B1⟩
  have U2 := fun_mk (st := s_Scope___init__) l2 c2 k2
  have B2 := U2.binds (ps := ["self", "numbers", "lists", "olds"]) fun _ _ _ _ _ _ us hl => match us, hl with | [_, _, _, _], _ => rfl
  have M_Scope : MakeG K mg "Scope" S f2 _ ["self", "numbers", "lists", "olds"] := ⟨⟨mk_Scope, a2, i2, kc_Scope⟩, PySem.W.mg_of X G a_Scope, B2⟩
  have U3 := fun_mk (st := s_Unit_number_names) l3 c3 k3
  have B3 := U3.binds (ps := ["self"]) fun _ _ _ _ _ _ us hl => match us, hl with | [_], _ => rfl
  have P_Unit_number_names : PropG K C "number_names" f3 _ ["self"] := ⟨⟨pg_Unit, hd_Unit, po_Unit, sa_Unit⟩, ⟨p3, pa3, pg3, pt3, r3, pr3⟩, B3⟩
  have U4 := fun_mk (st := s_Unit_list_names) l4 c4 k4
  have B4 := U4.binds (ps := ["self"]) fun _ _ _ _ _ _ us hl => match us, hl with | [_], _ => rfl
  have P_Unit_list_names : PropG K C "list_names" f4 _ ["self"] := ⟨⟨pg_Unit, hd_Unit, po_Unit, sa_Unit⟩, ⟨p4, pa4, pg4, pt4, r4, pr4⟩, B4⟩
  have U5 := fun_mk (st := s_Unit_used) l5 c5 k5
  have B5 := U5.binds (ps := ["self", "name"]) fun _ _ _ _ _ _ us hl => match us, hl with | [_, _], _ => rfl
  have M_Unit_used : MethG K C "used" f5 _ ["self", "name"] := ⟨⟨pg_Unit, hd_Unit, po_Unit, sa_Unit⟩, ⟨a5, i5, k5⟩, B5⟩
  have U6 := fun_mk (st := s_BadUnit___init__) l6 c6 k6
  have B6 := U6.binds (ps := ["self", "at"]) fun _ _ _ _ _ _ us hl => match us, hl with | [_, _], _ => rfl
  have O_BadUnit : OexC K CB := ⟨⟨_, _, _, _, _, _, _, _, _, _, _, _, _, _, _, x_cls, x_ref⟩, x_sa, x_ex, x_ty, x_kc⟩
  have U7 := fun_mk (st := s_steps_from) l7 c7 k7
  have B7 := U7.binds (ps := ["unit", "at"]) fun _ _ _ _ _ _ us hl => match us, hl with | [_, _], _ => rfl
  have G_steps_from : Glob K mg "steps_from" f7 _ ["unit", "at"] := ⟨PySem.W.mg_of X G a7, k7, B7⟩
  have U8 := fun_mk (st := s_next_rows) l8 c8 k8
  have B8 := U8.binds (ps := ["unit", "at"]) fun _ _ _ _ _ _ us hl => match us, hl with | [_, _], _ => rfl
  have G_next_rows : Glob K mg "next_rows" f8 _ ["unit", "at"] := ⟨PySem.W.mg_of X G a8, k8, B8⟩
  have U9 := fun_mk (st := s_is_back) l9 c9 k9
  have B9 := U9.binds (ps := ["at", "target"]) fun _ _ _ _ _ _ us hl => match us, hl with | [_, _], _ => rfl
  have G_is_back : Glob K mg "is_back" f9 _ ["at", "target"] := ⟨PySem.W.mg_of X G a9, k9, B9⟩
  have U10 := fun_mk (st := s_count_ways) l10 c10 k10
  have B10 := U10.binds (ps := ["unit"]) fun _ _ _ _ _ _ us hl => match us, hl with | [_], _ => rfl
  have G_count_ways : Glob K mg "count_ways" f10 _ ["unit"] := ⟨PySem.W.mg_of X G a10, k10, B10⟩
  have U11 := fun_mk (st := s_told_ahead) l11 c11 k11
  have B11 := U11.binds (ps := ["unit", "things"]) fun _ _ _ _ _ _ us hl => match us, hl with | [_, _], _ => rfl
  have G_told_ahead : Glob K mg "told_ahead" f11 _ ["unit", "things"] := ⟨PySem.W.mg_of X G a11, k11, B11⟩
  have U12 := fun_mk (st := s_standing_ahead) l12 c12 k12
  have B12 := U12.binds (ps := ["unit"]) fun _ _ _ _ _ _ us hl => match us, hl with | [_], _ => rfl
  have G_standing_ahead : Glob K mg "standing_ahead" f12 _ ["unit"] := ⟨PySem.W.mg_of X G a12, k12, B12⟩
  have U13 := fun_mk (st := s_rows_come_to) l13 c13 k13
  have B13 := U13.binds (ps := ["steps", "at"]) fun _ _ _ _ _ _ us hl => match us, hl with | [_, _], _ => rfl
  have G_rows_come_to : Glob K mg "rows_come_to" f13 _ ["steps", "at"] := ⟨PySem.W.mg_of X G a13, k13, B13⟩
  have U14 := fun_mk (st := s_round_rows) l14 c14 k14
  have B14 := U14.binds (ps := ["unit", "at"]) fun _ _ _ _ _ _ us hl => match us, hl with | [_, _], _ => rfl
  have G_round_rows : Glob K mg "round_rows" f14 _ ["unit", "at"] := ⟨PySem.W.mg_of X G a14, k14, B14⟩
  have U15 := fun_mk (st := s_names_of_plain) l15 c15 k15
  have B15 := U15.binds (ps := ["term"]) fun _ _ _ _ _ _ us hl => match us, hl with | [_], _ => rfl
  have G_names_of_plain : Glob K mg "names_of_plain" f15 _ ["term"] := ⟨PySem.W.mg_of X G a15, k15, B15⟩
  have U16 := fun_mk (st := s_names_of_term) l16 c16 k16
  have B16 := U16.binds (ps := ["term"]) fun _ _ _ _ _ _ us hl => match us, hl with | [_], _ => rfl
  have G_names_of_term : Glob K mg "names_of_term" f16 _ ["term"] := ⟨PySem.W.mg_of X G a16, k16, B16⟩
  have U17 := fun_mk (st := s_names_of_comparison) l17 c17 k17
  have B17 := U17.binds (ps := ["comparison"]) fun _ _ _ _ _ _ us hl => match us, hl with | [_], _ => rfl
  have G_names_of_comparison : Glob K mg "names_of_comparison" f17 _ ["comparison"] := ⟨PySem.W.mg_of X G a17, k17, B17⟩
  have U18 := fun_mk (st := s_names_of_promise) l18 c18 k18
  have B18 := U18.binds (ps := ["promise"]) fun _ _ _ _ _ _ us hl => match us, hl with | [_], _ => rfl
  have G_names_of_promise : Glob K mg "names_of_promise" f18 _ ["promise"] := ⟨PySem.W.mg_of X G a18, k18, B18⟩
  have U19 := fun_mk (st := s_names_of_mark) l19 c19 k19
  have B19 := U19.binds (ps := ["row"]) fun _ _ _ _ _ _ us hl => match us, hl with | [_], _ => rfl
  have G_names_of_mark : Glob K mg "names_of_mark" f19 _ ["row"] := ⟨PySem.W.mg_of X G a19, k19, B19⟩
  have U20 := fun_mk (st := s_names_of_call) l20 c20 k20
  have B20 := U20.binds (ps := ["row"]) fun _ _ _ _ _ _ us hl => match us, hl with | [_], _ => rfl
  have G_names_of_call : Glob K mg "names_of_call" f20 _ ["row"] := ⟨PySem.W.mg_of X G a20, k20, B20⟩
  have U21 := fun_mk (st := s_names_read) l21 c21 k21
  have B21 := U21.binds (ps := ["row"]) fun _ _ _ _ _ _ us hl => match us, hl with | [_], _ => rfl
  have G_names_read : Glob K mg "names_read" f21 _ ["row"] := ⟨PySem.W.mg_of X G a21, k21, B21⟩
  have U22 := fun_mk (st := s_reads) l22 c22 k22
  have B22 := U22.binds (ps := ["unit", "at"]) fun _ _ _ _ _ _ us hl => match us, hl with | [_, _], _ => rfl
  have G_reads : Glob K mg "reads" f22 _ ["unit", "at"] := ⟨PySem.W.mg_of X G a22, k22, B22⟩
  have U23 := fun_mk (st := s_given_by) l23 c23 k23
  have B23 := U23.binds (ps := ["unit", "at"]) fun _ _ _ _ _ _ us hl => match us, hl with | [_, _], _ => rfl
  have G_given_by : Glob K mg "given_by" f23 _ ["unit", "at"] := ⟨PySem.W.mg_of X G a23, k23, B23⟩
  have U24 := fun_mk (st := s_behind_run) l24 c24 k24
  have B24 := U24.binds (ps := ["text", "start", "signs"]) fun _ _ _ _ _ _ us hl => match us, hl with | [_, _, _], _ => rfl
  have G_behind_run : Glob K mg "behind_run" f24 _ ["text", "start", "signs"] := ⟨PySem.W.mg_of X G a24, k24, B24⟩
  have U25 := fun_mk (st := s_is_name) l25 c25 k25
  have B25 := U25.binds (ps := ["word"]) fun _ _ _ _ _ _ us hl => match us, hl with | [_], _ => rfl
  have G_is_name : Glob K mg "is_name" f25 _ ["word"] := ⟨PySem.W.mg_of X G a25, k25, B25⟩
  have U26 := fun_mk (st := s_is_word) l26 c26 k26
  have B26 := U26.binds (ps := ["value"]) fun _ _ _ _ _ _ us hl => match us, hl with | [_], _ => rfl
  have G_is_word : Glob K mg "is_word" f26 _ ["value"] := ⟨PySem.W.mg_of X G a26, k26, B26⟩
  have U27 := fun_mk (st := s_is_small) l27 c27 k27
  have B27 := U27.binds (ps := ["value"]) fun _ _ _ _ _ _ us hl => match us, hl with | [_], _ => rfl
  have G_is_small : Glob K mg "is_small" f27 _ ["value"] := ⟨PySem.W.mg_of X G a27, k27, B27⟩
  have U28 := fun_mk (st := s_shaped) l28 c28 k28
  have B28 := U28.binds (ps := ["value", "word", "many"]) fun _ _ _ _ _ _ us hl => match us, hl with | [_, _, _], _ => rfl
  have G_shaped : Glob K mg "shaped" f28 _ ["value", "word", "many"] := ⟨PySem.W.mg_of X G a28, k28, B28⟩
  have U29 := fun_mk (st := s_plain_fits) l29 c29 k29
  have B29 := U29.binds (ps := ["scope", "term"]) fun _ _ _ _ _ _ us hl => match us, hl with | [_, _], _ => rfl
  have G_plain_fits : Glob K mg "plain_fits" f29 _ ["scope", "term"] := ⟨PySem.W.mg_of X G a29, k29, B29⟩
  have U30 := fun_mk (st := s_list_fits) l30 c30 k30
  have B30 := U30.binds (ps := ["scope", "told"]) fun _ _ _ _ _ _ us hl => match us, hl with | [_, _], _ => rfl
  have G_list_fits : Glob K mg "list_fits" f30 _ ["scope", "told"] := ⟨PySem.W.mg_of X G a30, k30, B30⟩
  have U31 := fun_mk (st := s_term_fits) l31 c31 k31
  have B31 := U31.binds (ps := ["scope", "term"]) fun _ _ _ _ _ _ us hl => match us, hl with | [_, _], _ => rfl
  have G_term_fits : Glob K mg "term_fits" f31 _ ["scope", "term"] := ⟨PySem.W.mg_of X G a31, k31, B31⟩
  have U32 := fun_mk (st := s_range_fits) l32 c32 k32
  have B32 := U32.binds (ps := ["scope", "lo", "hi"]) fun _ _ _ _ _ _ us hl => match us, hl with | [_, _, _], _ => rfl
  have G_range_fits : Glob K mg "range_fits" f32 _ ["scope", "lo", "hi"] := ⟨PySem.W.mg_of X G a32, k32, B32⟩
  have U33 := fun_mk (st := s_falls_fits) l33 c33 k33
  have B33 := U33.binds (ps := ["scope", "falls"]) fun _ _ _ _ _ _ us hl => match us, hl with | [_, _], _ => rfl
  have G_falls_fits : Glob K mg "falls_fits" f33 _ ["scope", "falls"] := ⟨PySem.W.mg_of X G a33, k33, B33⟩
  have U34 := fun_mk (st := s_comparison_fits) l34 c34 k34
  have B34 := U34.binds (ps := ["scope", "value"]) fun _ _ _ _ _ _ us hl => match us, hl with | [_, _], _ => rfl
  have G_comparison_fits : Glob K mg "comparison_fits" f34 _ ["scope", "value"] := ⟨PySem.W.mg_of X G a34, k34, B34⟩
  have U35 := fun_mk (st := s_promise_fits) l35 c35 k35
  have B35 := U35.binds (ps := ["scope", "promise"]) fun _ _ _ _ _ _ us hl => match us, hl with | [_, _], _ => rfl
  have G_promise_fits : Glob K mg "promise_fits" f35 _ ["scope", "promise"] := ⟨PySem.W.mg_of X G a35, k35, B35⟩
  have U36 := fun_mk (st := s_unlike) l36 c36 k36
  have B36 := U36.binds (ps := ["names"]) fun _ _ _ _ _ _ us hl => match us, hl with | [_], _ => rfl
  have G_unlike : Glob K mg "unlike" f36 _ ["names"] := ⟨PySem.W.mg_of X G a36, k36, B36⟩
  have U37 := fun_mk (st := s_parameters_fit) l37 c37 k37
  have B37 := U37.binds (ps := ["parameters"]) fun _ _ _ _ _ _ us hl => match us, hl with | [_], _ => rfl
  have G_parameters_fit : Glob K mg "parameters_fit" f37 _ ["parameters"] := ⟨PySem.W.mg_of X G a37, k37, B37⟩
  have U38 := fun_mk (st := s_promises_fit) l38 c38 k38
  have B38 := U38.binds (ps := ["scope", "promises"]) fun _ _ _ _ _ _ us hl => match us, hl with | [_, _], _ => rfl
  have G_promises_fit : Glob K mg "promises_fit" f38 _ ["scope", "promises"] := ⟨PySem.W.mg_of X G a38, k38, B38⟩
  have U39 := fun_mk (st := s_head_fits) l39 c39 k39
  have B39 := U39.binds (ps := ["head"]) fun _ _ _ _ _ _ us hl => match us, hl with | [_], _ => rfl
  have G_head_fits : Glob K mg "head_fits" f39 _ ["head"] := ⟨PySem.W.mg_of X G a39, k39, B39⟩
  have U40 := fun_mk (st := s_uses_fit) l40 c40 k40
  have B40 := U40.binds (ps := ["unit"]) fun _ _ _ _ _ _ us hl => match us, hl with | [_], _ => rfl
  have G_uses_fit : Glob K mg "uses_fit" f40 _ ["unit"] := ⟨PySem.W.mg_of X G a40, k40, B40⟩
  have U41 := fun_mk (st := s_front_fits) l41 c41 k41
  have B41 := U41.binds (ps := ["unit"]) fun _ _ _ _ _ _ us hl => match us, hl with | [_], _ => rfl
  have G_front_fits : Glob K mg "front_fits" f41 _ ["unit"] := ⟨PySem.W.mg_of X G a41, k41, B41⟩
  have U42 := fun_mk (st := s_target_fits) l42 c42 k42
  have B42 := U42.binds (ps := ["unit", "target"]) fun _ _ _ _ _ _ us hl => match us, hl with | [_, _], _ => rfl
  have G_target_fits : Glob K mg "target_fits" f42 _ ["unit", "target"] := ⟨PySem.W.mg_of X G a42, k42, B42⟩
  have U43 := fun_mk (st := s_call_fits) l43 c43 k43
  have B43 := U43.binds (ps := ["unit", "scope", "row"]) fun _ _ _ _ _ _ us hl => match us, hl with | [_, _, _], _ => rfl
  have G_call_fits : Glob K mg "call_fits" f43 _ ["unit", "scope", "row"] := ⟨PySem.W.mg_of X G a43, k43, B43⟩
  have U44 := fun_mk (st := s_mark_fits) l44 c44 k44
  have B44 := U44.binds (ps := ["unit", "scope", "row"]) fun _ _ _ _ _ _ us hl => match us, hl with | [_, _, _], _ => rfl
  have G_mark_fits : Glob K mg "mark_fits" f44 _ ["unit", "scope", "row"] := ⟨PySem.W.mg_of X G a44, k44, B44⟩
  have U45 := fun_mk (st := s_giving_fits) l45 c45 k45
  have B45 := U45.binds (ps := ["unit", "scope", "row"]) fun _ _ _ _ _ _ us hl => match us, hl with | [_, _, _], _ => rfl
  have G_giving_fits : Glob K mg "giving_fits" f45 _ ["unit", "scope", "row"] := ⟨PySem.W.mg_of X G a45, k45, B45⟩
  have U46 := fun_mk (st := s_parts_fit) l46 c46 k46
  have B46 := U46.binds (ps := ["unit", "scope", "row"]) fun _ _ _ _ _ _ us hl => match us, hl with | [_, _, _], _ => rfl
  have G_parts_fit : Glob K mg "parts_fit" f46 _ ["unit", "scope", "row"] := ⟨PySem.W.mg_of X G a46, k46, B46⟩
  have U47 := fun_mk (st := s_row_fits) l47 c47 k47
  have B47 := U47.binds (ps := ["unit", "at"]) fun _ _ _ _ _ _ us hl => match us, hl with | [_, _], _ => rfl
  have G_row_fits : Glob K mg "row_fits" f47 _ ["unit", "at"] := ⟨PySem.W.mg_of X G a47, k47, B47⟩
  have U48 := fun_mk (st := s_changed_by) l48 c48 k48
  have B48 := U48.binds (ps := ["unit", "at"]) fun _ _ _ _ _ _ us hl => match us, hl with | [_, _], _ => rfl
  have G_changed_by : Glob K mg "changed_by" f48 _ ["unit", "at"] := ⟨PySem.W.mg_of X G a48, k48, B48⟩
  have U49 := fun_mk (st := s_values_by) l49 c49 k49
  have B49 := U49.binds (ps := ["unit", "at"]) fun _ _ _ _ _ _ us hl => match us, hl with | [_, _], _ => rfl
  have G_values_by : Glob K mg "values_by" f49 _ ["unit", "at"] := ⟨PySem.W.mg_of X G a49, k49, B49⟩
  have U50 := fun_mk (st := s_names_fit) l50 c50 k50
  have B50 := U50.binds (ps := ["unit", "at"]) fun _ _ _ _ _ _ us hl => match us, hl with | [_, _], _ => rfl
  have G_names_fit : Glob K mg "names_fit" f50 _ ["unit", "at"] := ⟨PySem.W.mg_of X G a50, k50, B50⟩
  have U51 := fun_mk (st := s_steps_back_fit) l51 c51 k51
  have B51 := U51.binds (ps := ["unit", "at", "standing"]) fun _ _ _ _ _ _ us hl => match us, hl with | [_, _, _], _ => rfl
  have G_steps_back_fit : Glob K mg "steps_back_fit" f51 _ ["unit", "at", "standing"] := ⟨PySem.W.mg_of X G a51, k51, B51⟩
  have U52 := fun_mk (st := s_place_fits) l52 c52 k52
  have B52 := U52.binds (ps := ["unit", "at", "standing", "given"]) fun _ _ _ _ _ _ us hl => match us, hl with | [_, _, _, _], _ => rfl
  have G_place_fits : Glob K mg "place_fits" f52 _ ["unit", "at", "standing", "given"] := ⟨PySem.W.mg_of X G a52, k52, B52⟩
  have U53 := fun_mk (st := s_wrong_at) l53 c53 k53
  have B53 := U53.binds (ps := ["unit"]) fun _ _ _ _ _ _ us hl => match us, hl with | [_], _ => rfl
  have G_wrong_at : Glob K mg "wrong_at" f53 _ ["unit"] := ⟨PySem.W.mg_of X G a53, k53, B53⟩
  have U54 := fun_mk (st := s_check_unit) l54 c54 k54
  have B54 := U54.binds (ps := ["unit"]) fun _ _ _ _ _ _ us hl => match us, hl with | [_], _ => rfl
  have G_check_unit : Glob K mg "check_unit" f54 _ ["unit"] := ⟨PySem.W.mg_of X G a54, k54, B54⟩
  have U55 := fun_mk (st := s_is_good_unit) l55 c55 k55
  have B55 := U55.binds (ps := ["unit"]) fun _ _ _ _ _ _ us hl => match us, hl with | [_], _ => rfl
  have G_is_good_unit : Glob K mg "is_good_unit" f55 _ ["unit"] := ⟨PySem.W.mg_of X G a55, k55, B55⟩
  have U56 := fun_mk (st := s__law_well) l56 c56 k56
  have B56 := U56.binds (ps := ["script"]) fun _ _ _ _ _ _ us hl => match us, hl with | [_], _ => rfl
  have G__law_well : Glob K mg "_law_well" f56 _ ["script"] := ⟨PySem.W.mg_of X G a56, k56, B56⟩
  have U57 := fun_mk (st := s__law_draw) l57 c57 k57
  have B57 := U57.binds (ps := ["well", "many"]) fun _ _ _ _ _ _ us hl => match us, hl with | [_, _], _ => rfl
  have G__law_draw : Glob K mg "_law_draw" f57 _ ["well", "many"] := ⟨PySem.W.mg_of X G a57, k57, B57⟩
  have U58 := fun_mk (st := s__law_pick) l58 c58 k58
  have B58 := U58.binds (ps := ["well", "things"]) fun _ _ _ _ _ _ us hl => match us, hl with | [_, _], _ => rfl
  have G__law_pick : Glob K mg "_law_pick" f58 _ ["well", "things"] := ⟨PySem.W.mg_of X G a58, k58, B58⟩
  have U59 := fun_mk (st := s__law_chain) l59 c59 k59
  have B59 := U59.binds (ps := ["many", "first", "last"]) fun _ _ _ _ _ _ us hl => match us, hl with | [_, _, _], _ => rfl
  have G__law_chain : Glob K mg "_law_chain" f59 _ ["many", "first", "last"] := ⟨PySem.W.mg_of X G a59, k59, B59⟩
  have U60 := fun_mk (st := s__law_rows) l60 c60 k60
  have B60 := U60.binds (ps := ["well", "most", "fails"]) fun _ _ _ _ _ _ us hl => match us, hl with | [_, _, _], _ => rfl
  have G__law_rows : Glob K mg "_law_rows" f60 _ ["well", "most", "fails"] := ⟨PySem.W.mg_of X G a60, k60, B60⟩
  have U61 := fun_mk (st := s__law_unit_of) l61 c61 k61
  have B61 := U61.binds (ps := ["rows"]) fun _ _ _ _ _ _ us hl => match us, hl with | [_], _ => rfl
  have G__law_unit_of : Glob K mg "_law_unit_of" f61 _ ["rows"] := ⟨PySem.W.mg_of X G a61, k61, B61⟩
  have U62 := fun_mk (st := s__law_verdict) l62 c62 k62
  have B62 := U62.binds (ps := ["rows"]) fun _ _ _ _ _ _ us hl => match us, hl with | [_], _ => rfl
  have G__law_verdict : Glob K mg "_law_verdict" f62 _ ["rows"] := ⟨PySem.W.mg_of X G a62, k62, B62⟩
  have U63 := fun_mk (st := s__law_spoilt) l63 c63 k63
  have B63 := U63.binds (ps := ["rows", "at", "row"]) fun _ _ _ _ _ _ us hl => match us, hl with | [_, _, _], _ => rfl
  have G__law_spoilt : Glob K mg "_law_spoilt" f63 _ ["rows", "at", "row"] := ⟨PySem.W.mg_of X G a63, k63, B63⟩
  have U64 := fun_mk (st := s_law) l64 c64 k64
  have B64 := U64.binds (ps := ["script"]) fun _ _ _ _ _ _ us hl => match us, hl with | [_], _ => rfl
  refine ⟨PySem.W.fnOf "law" "law" (defArgs s_law) (defBody s_law) (defScope s_law) .none kV64 dc64 pm64 an64 cd64 ct64, fun s v => .of_eq rfl, fun base _ _ => ?_⟩
  have X_BadUnit : ExG l.prog w K mg base "BadUnit" CB "at" := ⟨O_BadUnit, ⟨x_ga, x_gg, x_ex, x_hd⟩, x_no, x_me, PySem.W.mg_of X G a_BadUnit, ⟨f6, _, _, a6, t6, exinit_ok U6 sc_BadUnit___init__ rfl rfl O_BadUnit x_no (by decide) (by decide) (fun _ _ _ _ _ _ => rfl), B6⟩⟩
  have hC : C ∈ [C] := by simp
  have T0 := T.toTxt
  have V_init := ok_init (P := l.prog) (w := w) (base := base) T0 hC U1
  have V_scope := ok_scope (P := l.prog) (w := w) (base := base) T U2
  have V_sf := ok_steps_from (P := l.prog) (w := w) (base := base) T0 U7
  have V_nr := ok_next_rows (P := l.prog) (w := w) (base := base) T0 U8 V_sf G_steps_from
  have V_ib := ok_is_back (P := l.prog) (w := w) (mg := mg) (base := base) U9
  have V_cw := ok_count_ways (P := l.prog) (w := w) (base := base) T0 U10 V_sf G_steps_from V_ib G_is_back
  have V_ta := ok_told_ahead (P := l.prog) (w := w) (base := base) T0 U11 V_nr G_next_rows V_ib G_is_back
  have V_sa := ok_standing_ahead (P := l.prog) (w := w) (base := base) T0 U12 V_ta G_told_ahead
  have V_rc := ok_rows_come_to (P := l.prog) (w := w) (base := base) T0 U13
  have V_rr := ok_round_rows (P := l.prog) (w := w) (base := base) T0 U14 V_nr G_next_rows V_rc G_rows_come_to
  have V_br := ok_behind_run (P := l.prog) (w := w) (base := base) T U24
  have V_nm := ok_is_name (P := l.prog) (w := w) (base := base) T U25 V_br G_behind_run
  have V_iw := ok_is_word (P := l.prog) (w := w) (base := base) T U26 V_nm G_is_name
  have V_sm := ok_is_small (P := l.prog) (w := w) (base := base) T U27
  have V_sh := ok_shaped (P := l.prog) (w := w) (base := base) T U28
  have V_pf := ok_plain_fits (P := l.prog) (w := w) (base := base) T U29 V_sh G_shaped V_sm G_is_small
  have V_tf := ok_term_fits (P := l.prog) (w := w) (base := base) T U31 V_sh G_shaped V_pf G_plain_fits FnG.none G_list_fits V_sm G_is_small
  have V_rf := ok_range_fits (P := l.prog) (w := w) (base := base) T U32 V_pf G_plain_fits
  have V_ff := ok_falls_fits (P := l.prog) (w := w) (base := base) T U33 V_rf G_range_fits
  have V_cf := ok_comparison_fits (P := l.prog) (w := w) (base := base) T U34 V_sh G_shaped V_tf G_term_fits
  have V_pr := ok_promises_fit (P := l.prog) (w := w) (base := base) T U38 FnG.none G_promise_fits
  have V_nn := ok_Unit_number_names (P := l.prog) (w := w) (base := base) T U3
  have V_ln := ok_Unit_list_names (P := l.prog) (w := w) (base := base) T U4
  have V_ul := ok_unlike (P := l.prog) (w := w) (base := base) T U36
  have V_paf := ok_parameters_fit (P := l.prog) (w := w) (base := base) T U37 V_iw G_is_word V_ul G_unlike
  have V_hf := ok_head_fits (P := l.prog) (w := w) (base := base) T U39 V_iw G_is_word V_paf G_parameters_fit V_ln P_Unit_list_names V_nn P_Unit_number_names V_scope M_Scope V_pr G_promises_fit V_ff G_falls_fits
  have V_uf := ok_uses_fit (P := l.prog) (w := w) (base := base) T U40 V_hf G_head_fits V_ul G_unlike
  have V_fr := ok_front_fits (P := l.prog) (w := w) (base := base) T U41 V_hf G_head_fits V_uf G_uses_fit V_iw G_is_word V_ul G_unlike V_nn P_Unit_number_names V_ln P_Unit_list_names
  have V_tg := ok_target_fits (P := l.prog) (w := w) (base := base) T U42
  have V_mf := ok_mark_fits (P := l.prog) (w := w) (base := base) T U44 V_scope M_Scope V_pr G_promises_fit V_ff G_falls_fits
  have V_gf := ok_giving_fits (P := l.prog) (w := w) (base := base) T U45 V_sh G_shaped V_tf G_term_fits V_rf G_range_fits FnG.none G_call_fits
  have V_pa := ok_parts_fit (P := l.prog) (w := w) (base := base) T U46 V_sh G_shaped V_pf G_plain_fits V_tf G_term_fits V_rf G_range_fits V_cf G_comparison_fits V_tg G_target_fits V_mf G_mark_fits V_gf G_giving_fits
  have V_row := ok_row_fits (P := l.prog) (w := w) (base := base) T U47 V_pa G_parts_fit V_scope M_Scope V_nn P_Unit_number_names V_ln P_Unit_list_names
  have V_np := ok_names_of_plain (P := l.prog) (w := w) (base := base) T U15
  have V_nt := ok_names_of_term (P := l.prog) (w := w) (base := base) T U16 V_np G_names_of_plain
  have V_nc := ok_names_of_comparison (P := l.prog) (w := w) (base := base) T U17 V_nt G_names_of_term
  have V_nmk := ok_names_of_mark (P := l.prog) (w := w) (base := base) T U19 V_np G_names_of_plain FnG.none G_names_of_promise
  have V_nre := ok_names_read (P := l.prog) (w := w) (base := base) T U21 V_nt G_names_of_term V_np G_names_of_plain FnG.none G_names_of_call V_nc G_names_of_comparison V_nmk G_names_of_mark
  have V_re := ok_reads (P := l.prog) (w := w) (base := base) T U22 V_nre G_names_read
  have V_gb := ok_given_by (P := l.prog) (w := w) (base := base) T U23
  have V_vb := ok_values_by (P := l.prog) (w := w) (base := base) T U49 V_gb G_given_by
  have V_ch := ok_changed_by (P := l.prog) (w := w) (base := base) T U48 FnG.none M_Unit_used
  have V_nf := ok_names_fit (P := l.prog) (w := w) (base := base) T U50 V_ln P_Unit_list_names V_rr G_round_rows V_vb G_values_by V_ch G_changed_by
  have V_sb := ok_steps_back_fit (P := l.prog) (w := w) (base := base) T U51 V_nr G_next_rows V_ib G_is_back
  have V_pl := ok_place_fits (P := l.prog) (w := w) (base := base) T U52 V_re G_reads V_ch G_changed_by V_nf G_names_fit V_sb G_steps_back_fit
  have V_wa := ok_wrong_at (P := l.prog) (w := w) (base := base) T U53 V_fr G_front_fits V_row G_row_fits V_cw G_count_ways V_sa G_standing_ahead V_ta G_told_ahead V_vb G_values_by V_pl G_place_fits
  have V_cu := ok_check_unit (P := l.prog) (w := w) (base := base) T U54 V_wa G_wrong_at X_BadUnit
  have V_gu := ok_is_good_unit (P := l.prog) (w := w) (base := base) T U55 V_wa G_wrong_at
  have V_well := ok__law_well (P := l.prog) (w := w) (base := base) T0 U56
  have V_draw := ok__law_draw (P := l.prog) (w := w) (base := base) T0 U57
  have V_pick := ok__law_pick (P := l.prog) (w := w) (base := base) T U58 V_draw G__law_draw
  have V_chain := ok__law_chain (P := l.prog) (w := w) (base := base) T U59
  have V_rows := ok__law_rows (P := l.prog) (w := w) (base := base) T U60 V_draw G__law_draw V_chain G__law_chain
  have V_uo := ok_unit_of (P := l.prog) (w := w) (base := base) T0 U61 V_init M_Unit
  have V_ve := ok__law_verdict (P := l.prog) (w := w) (base := base) T U62 V_uo G__law_unit_of V_cu G_check_unit X_BadUnit
  have V_sp := ok__law_spoilt (P := l.prog) (w := w) (base := base) T U63
  exact ok_law T U64 V_draw G__law_draw V_pick G__law_pick V_well G__law_well V_rows G__law_rows V_uo G__law_unit_of V_cw G_count_ways V_gu G_is_good_unit V_ve G__law_verdict V_sp G__law_spoilt
theorem walk {l : PySem.W.OpenLaw} {q : Program} {loose : List Str} {XP : (Str → Option Value) → Heap → Prop} {YP : World → Heap → Prop} {d : DefRec} {K : Params → PySem.W.Frag} (hn : l.most = some 63) (hdf : d.params.defaults = [])
    (hY : ∀ (w : World) (h : Heap), YP w h → (K w.params).In h)
    (F : ∀ (w : World) (mg : Str → Option Value) (fa : Addr) (h : Heap), (K w.params).In h → h.Ns mainGlobals mg → mg d.name = some (.ref fa) →
      ∃ fd : FuncData, (∀ (s : Shared) (u : Value), BindsTo s fd ⟨[u], []⟩ [("script", u)]) ∧ ∀ base : Heap, (K w.params).In base → base.Ns mainGlobals mg → FnG l.prog w (K w.params) mg base 13 fa fd ["script"] (spLaw (K w.params) 63)) :
    PySem.W.WalkO q loose XP YP l.row.toRowW d [] (fun f vs => PySem.call f vs) :=
  walkG (n := 63) (k := 13) (x := "script") (sp := fun w => spLaw (K w.params) 63) hn (by decide) hdf ⟨rfl, by decide, by decide⟩ hY F fun _ _ a ns hl _ hS => ⟨a, ns, rfl, hS, hl, fun _ => rfl⟩
end K54

open PySem PySem.W PyProof.Rows in
set_option maxRecDepth 100000 in
set_option maxHeartbeats 0 in
theorem PySem.Challenge.cw_sworncode_k54_too_many_ways_holds : PySem.Challenge.rw_sworncode_k54_too_many_ways.Holds := by
  w_on; o_law; k_head; (case hw => w_witness2)
  k_fill
  refine K54.walk (l := PySem.Challenge.rw_sworncode_k54_too_many_ways) rfl rfl (fun w h Y => PySem.W.kIn_of Y) ?F
  case F =>
    intro w mg fa h KX G hmg
    refine' K54.all_mk KX G hmg ?a_Unit ?a1 ?i1 ?l1 ?c1 ?k1 ?pg_Unit ?hd_Unit ?po_Unit ?sa_Unit ?mk_Unit ?kc_Unit ?t_name ?t_parameters ?t_needs ?t_gives ?t_falls ?t_changes ?t_uses ?t_registers ?t_rows ?a_Scope ?a2 ?i2 ?l2 ?c2 ?k2 ?pg_Scope ?hd_Scope ?po_Scope ?sa_Scope ?mk_Scope ?kc_Scope ?t_numbers ?t_lists ?t_olds ?a_Head ?pa3 ?pg3 ?pt3 ?pr3 ?l3 ?c3 ?k3 ?pa4 ?pg4 ?pt4 ?pr4 ?l4 ?c4 ?k4 ?a5 ?i5 ?l5 ?c5 ?k5 ?a_BadUnit ?x_cls ?x_ref ?x_sa ?x_ex ?x_ty ?x_kc ?x_ga ?x_gg ?x_hd ?x_no ?x_me ?a6 ?t6 ?l6 ?c6 ?k6 ?a7 ?l7 ?c7 ?k7 ?a8 ?l8 ?c8 ?k8 ?a9 ?l9 ?c9 ?k9 ?a10 ?l10 ?c10 ?k10 ?a11 ?l11 ?c11 ?k11 ?a12 ?l12 ?c12 ?k12 ?a13 ?l13 ?c13 ?k13 ?a14 ?l14 ?c14 ?k14 ?a15 ?l15 ?c15 ?k15 ?a16 ?l16 ?c16 ?k16 ?a17 ?l17 ?c17 ?k17 ?a18 ?l18 ?c18 ?k18 ?a19 ?l19 ?c19 ?k19 ?a20 ?l20 ?c20 ?k20 ?a21 ?l21 ?c21 ?k21 ?a22 ?l22 ?c22 ?k22 ?a23 ?l23 ?c23 ?k23 ?a24 ?l24 ?c24 ?k24 ?a25 ?l25 ?c25 ?k25 ?a26 ?l26 ?c26 ?k26 ?a27 ?l27 ?c27 ?k27 ?a28 ?l28 ?c28 ?k28 ?a29 ?l29 ?c29 ?k29 ?a30 ?l30 ?c30 ?k30 ?a31 ?l31 ?c31 ?k31 ?a32 ?l32 ?c32 ?k32 ?a33 ?l33 ?c33 ?k33 ?a34 ?l34 ?c34 ?k34 ?a35 ?l35 ?c35 ?k35 ?a36 ?l36 ?c36 ?k36 ?a37 ?l37 ?c37 ?k37 ?a38 ?l38 ?c38 ?k38 ?a39 ?l39 ?c39 ?k39 ?a40 ?l40 ?c40 ?k40 ?a41 ?l41 ?c41 ?k41 ?a42 ?l42 ?c42 ?k42 ?a43 ?l43 ?c43 ?k43 ?a44 ?l44 ?c44 ?k44 ?a45 ?l45 ?c45 ?k45 ?a46 ?l46 ?c46 ?k46 ?a47 ?l47 ?c47 ?k47 ?a48 ?l48 ?c48 ?k48 ?a49 ?l49 ?c49 ?k49 ?a50 ?l50 ?c50 ?k50 ?a51 ?l51 ?c51 ?k51 ?a52 ?l52 ?c52 ?k52 ?a53 ?l53 ?c53 ?k53 ?a54 ?l54 ?c54 ?k54 ?a55 ?l55 ?c55 ?k55 ?a56 ?l56 ?c56 ?k56 ?a57 ?l57 ?c57 ?k57 ?a58 ?l58 ?c58 ?k58 ?a59 ?l59 ?c59 ?k59 ?a60 ?l60 ?c60 ?k60 ?a61 ?l61 ?c61 ?k61 ?a62 ?l62 ?c62 ?k62 ?a63 ?l63 ?c63 ?k63 ?a64 ?l64 ?c64 ?k64 ?z_len ?z_range ?z_reversed ?z_min ?z_max ?z_tuple ?z_sum ?z_repr ?z_int ?z_abs ?z_enumerate ?z_sorted ?z_list ?z_zip ?z_type ?z_set ?z_str ?z_bool ?z_all ?z_isinstance ?y_MOST_WAYS ?y_MOST_FAILING_WAYS ?y_MOST_LETTERS ?y_MOST_NUMBER ?y_MOST_OF_A_KIND ?y_MOST_REGISTERS ?y_MOST_TOLD ?y_MOST_ROWS ?y_LETTERS ?y_LAST ?w_LAST ?s_LAST ?y_COMPARING ?w_COMPARING ?s_COMPARING ?y_RESERVED ?w_RESERVED ?s_RESERVED
    (case a_Unit => k_is)
    (case a1 => k_is)
    (case i1 => k_is)
    (case l1 => k_is)
    (case c1 => k_is)
    (case k1 => k_is)
    (case pg_Unit => k_is)
    (case hd_Unit => k_is)
    (case po_Unit => k_is)
    (case sa_Unit => k_is)
    (case mk_Unit => k_is)
    (case kc_Unit => k_is)
    (case t_name => k_is)
    (case t_parameters => k_is)
    (case t_needs => k_is)
    (case t_gives => k_is)
    (case t_falls => k_is)
    (case t_changes => k_is)
    (case t_uses => k_is)
    (case t_registers => k_is)
    (case t_rows => k_is)
    (case a_Scope => k_is)
    (case a2 => k_is)
    (case i2 => k_is)
    (case l2 => k_is)
    (case c2 => k_is)
    (case k2 => k_is)
    (case pg_Scope => k_is)
    (case hd_Scope => k_is)
    (case po_Scope => k_is)
    (case sa_Scope => k_is)
    (case mk_Scope => k_is)
    (case kc_Scope => k_is)
    (case t_numbers => k_is)
    (case t_lists => k_is)
    (case t_olds => k_is)
    (case a_Head => k_is)
    (case pa3 => k_is)
    (case pg3 => k_is)
    (case pt3 => k_is)
    (case pr3 => k_is)
    (case l3 => k_is)
    (case c3 => k_is)
    (case k3 => k_is)
    (case pa4 => k_is)
    (case pg4 => k_is)
    (case pt4 => k_is)
    (case pr4 => k_is)
    (case l4 => k_is)
    (case c4 => k_is)
    (case k4 => k_is)
    (case a5 => k_is)
    (case i5 => k_is)
    (case l5 => k_is)
    (case c5 => k_is)
    (case k5 => k_is)
    (case a_BadUnit => k_is)
    (case x_cls => k_is)
    (case x_ref => decide +kernel)
    (case x_sa => k_is)
    (case x_ex => k_is)
    (case x_ty => k_is)
    (case x_kc => k_is)
    (case x_ga => k_is)
    (case x_gg => k_is)
    (case x_hd => k_is)
    (case x_no => k_is)
    (case x_me => first | rfl | k_is)
    (case a6 => k_is)
    (case t6 => k_is)
    (case l6 => k_is)
    (case c6 => k_is)
    (case k6 => k_is)
    (case a7 => k_is)
    (case l7 => k_is)
    (case c7 => k_is)
    (case k7 => k_is)
    (case a8 => k_is)
    (case l8 => k_is)
    (case c8 => k_is)
    (case k8 => k_is)
    (case a9 => k_is)
    (case l9 => k_is)
    (case c9 => k_is)
    (case k9 => k_is)
    (case a10 => k_is)
    (case l10 => k_is)
    (case c10 => k_is)
    (case k10 => k_is)
    (case a11 => k_is)
    (case l11 => k_is)
    (case c11 => k_is)
    (case k11 => k_is)
    (case a12 => k_is)
    (case l12 => k_is)
    (case c12 => k_is)
    (case k12 => k_is)
    (case a13 => k_is)
    (case l13 => k_is)
    (case c13 => k_is)
    (case k13 => k_is)
    (case a14 => k_is)
    (case l14 => k_is)
    (case c14 => k_is)
    (case k14 => k_is)
    (case a15 => k_is)
    (case l15 => k_is)
    (case c15 => k_is)
    (case k15 => k_is)
    (case a16 => k_is)
    (case l16 => k_is)
    (case c16 => k_is)
    (case k16 => k_is)
    (case a17 => k_is)
    (case l17 => k_is)
    (case c17 => k_is)
    (case k17 => k_is)
    (case a18 => k_is)
    (case l18 => k_is)
    (case c18 => k_is)
    (case k18 => k_is)
    (case a19 => k_is)
    (case l19 => k_is)
    (case c19 => k_is)
    (case k19 => k_is)
    (case a20 => k_is)
    (case l20 => k_is)
    (case c20 => k_is)
    (case k20 => k_is)
    (case a21 => k_is)
    (case l21 => k_is)
    (case c21 => k_is)
    (case k21 => k_is)
    (case a22 => k_is)
    (case l22 => k_is)
    (case c22 => k_is)
    (case k22 => k_is)
    (case a23 => k_is)
    (case l23 => k_is)
    (case c23 => k_is)
    (case k23 => k_is)
    (case a24 => k_is)
    (case l24 => k_is)
    (case c24 => k_is)
    (case k24 => k_is)
    (case a25 => k_is)
    (case l25 => k_is)
    (case c25 => k_is)
    (case k25 => k_is)
    (case a26 => k_is)
    (case l26 => k_is)
    (case c26 => k_is)
    (case k26 => k_is)
    (case a27 => k_is)
    (case l27 => k_is)
    (case c27 => k_is)
    (case k27 => k_is)
    (case a28 => k_is)
    (case l28 => k_is)
    (case c28 => k_is)
    (case k28 => k_is)
    (case a29 => k_is)
    (case l29 => k_is)
    (case c29 => k_is)
    (case k29 => k_is)
    (case a30 => k_is)
    (case l30 => k_is)
    (case c30 => k_is)
    (case k30 => k_is)
    (case a31 => k_is)
    (case l31 => k_is)
    (case c31 => k_is)
    (case k31 => k_is)
    (case a32 => k_is)
    (case l32 => k_is)
    (case c32 => k_is)
    (case k32 => k_is)
    (case a33 => k_is)
    (case l33 => k_is)
    (case c33 => k_is)
    (case k33 => k_is)
    (case a34 => k_is)
    (case l34 => k_is)
    (case c34 => k_is)
    (case k34 => k_is)
    (case a35 => k_is)
    (case l35 => k_is)
    (case c35 => k_is)
    (case k35 => k_is)
    (case a36 => k_is)
    (case l36 => k_is)
    (case c36 => k_is)
    (case k36 => k_is)
    (case a37 => k_is)
    (case l37 => k_is)
    (case c37 => k_is)
    (case k37 => k_is)
    (case a38 => k_is)
    (case l38 => k_is)
    (case c38 => k_is)
    (case k38 => k_is)
    (case a39 => k_is)
    (case l39 => k_is)
    (case c39 => k_is)
    (case k39 => k_is)
    (case a40 => k_is)
    (case l40 => k_is)
    (case c40 => k_is)
    (case k40 => k_is)
    (case a41 => k_is)
    (case l41 => k_is)
    (case c41 => k_is)
    (case k41 => k_is)
    (case a42 => k_is)
    (case l42 => k_is)
    (case c42 => k_is)
    (case k42 => k_is)
    (case a43 => k_is)
    (case l43 => k_is)
    (case c43 => k_is)
    (case k43 => k_is)
    (case a44 => k_is)
    (case l44 => k_is)
    (case c44 => k_is)
    (case k44 => k_is)
    (case a45 => k_is)
    (case l45 => k_is)
    (case c45 => k_is)
    (case k45 => k_is)
    (case a46 => k_is)
    (case l46 => k_is)
    (case c46 => k_is)
    (case k46 => k_is)
    (case a47 => k_is)
    (case l47 => k_is)
    (case c47 => k_is)
    (case k47 => k_is)
    (case a48 => k_is)
    (case l48 => k_is)
    (case c48 => k_is)
    (case k48 => k_is)
    (case a49 => k_is)
    (case l49 => k_is)
    (case c49 => k_is)
    (case k49 => k_is)
    (case a50 => k_is)
    (case l50 => k_is)
    (case c50 => k_is)
    (case k50 => k_is)
    (case a51 => k_is)
    (case l51 => k_is)
    (case c51 => k_is)
    (case k51 => k_is)
    (case a52 => k_is)
    (case l52 => k_is)
    (case c52 => k_is)
    (case k52 => k_is)
    (case a53 => k_is)
    (case l53 => k_is)
    (case c53 => k_is)
    (case k53 => k_is)
    (case a54 => k_is)
    (case l54 => k_is)
    (case c54 => k_is)
    (case k54 => k_is)
    (case a55 => k_is)
    (case l55 => k_is)
    (case c55 => k_is)
    (case k55 => k_is)
    (case a56 => k_is)
    (case l56 => k_is)
    (case c56 => k_is)
    (case k56 => k_is)
    (case a57 => k_is)
    (case l57 => k_is)
    (case c57 => k_is)
    (case k57 => k_is)
    (case a58 => k_is)
    (case l58 => k_is)
    (case c58 => k_is)
    (case k58 => k_is)
    (case a59 => k_is)
    (case l59 => k_is)
    (case c59 => k_is)
    (case k59 => k_is)
    (case a60 => k_is)
    (case l60 => k_is)
    (case c60 => k_is)
    (case k60 => k_is)
    (case a61 => k_is)
    (case l61 => k_is)
    (case c61 => k_is)
    (case k61 => k_is)
    (case a62 => k_is)
    (case l62 => k_is)
    (case c62 => k_is)
    (case k62 => k_is)
    (case a63 => k_is)
    (case l63 => k_is)
    (case c63 => k_is)
    (case k63 => k_is)
    (case a64 => k_is)
    (case l64 => k_is)
    (case c64 => k_is)
    (case k64 => k_is)
    (case z_len => k_is)
    (case z_range => k_is)
    (case z_reversed => k_is)
    (case z_min => k_is)
    (case z_max => k_is)
    (case z_tuple => k_is)
    (case z_sum => k_is)
    (case z_repr => k_is)
    (case z_int => k_is)
    (case z_abs => k_is)
    (case z_enumerate => k_is)
    (case z_sorted => k_is)
    (case z_list => k_is)
    (case z_zip => k_is)
    (case z_type => k_is)
    (case z_set => k_is)
    (case z_str => k_is)
    (case z_bool => k_is)
    (case z_all => k_is)
    (case z_isinstance => k_is)
    (case y_MOST_WAYS => k_is)
    (case y_MOST_FAILING_WAYS => k_is)
    (case y_MOST_LETTERS => k_is)
    (case y_MOST_NUMBER => k_is)
    (case y_MOST_OF_A_KIND => k_is)
    (case y_MOST_REGISTERS => k_is)
    (case y_MOST_TOLD => k_is)
    (case y_MOST_ROWS => k_is)
    (case y_LETTERS => k_is)
    (case y_LAST => k_is)
    (case w_LAST => k_is)
    (case s_LAST => rfl)
    (case y_COMPARING => k_is)
    (case w_COMPARING => k_is)
    (case s_COMPARING => rfl)
    (case y_RESERVED => k_is)
    (case w_RESERVED => k_is)
    (case s_RESERVED => rfl)

