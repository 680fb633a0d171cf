/-
  The marks of Clash alone have no state, and without any one of them they have; no others that have none are fewer, or as many and a lesser list: CanvasClashes holds.
-/
import Derived.Test.YtokdmiiejfmomaaGreatDoorW6
import Derived.SevenTiedAt
section
set_option linter.unusedSimpArgs false
set_option linter.unusedVariables false
namespace Go.Gx
open Go Go.Conc Go.Proofs Go.ChangeShapes Go.RowKit YtokdmiiejfmomaaGreatDoor
set_option maxRecDepth 100000
theorem Shr.ro {W : World} {Hs : Facts} (h : Shr W Hs) : ∀ f ∈ ([.seg 0 0 chkC] ++ Hs : Facts), f.isOwn = false := by
  intro f hf
  rcases List.mem_append.1 hf with hf | hf
  · rw [List.mem_singleton] at hf; subst hf; rfl
  · exact (h f hf).1
section
variable {H : Type} {enc : TypeId × Value → H} {W : World} {sp : Nat → Bool} {held : Bool}

end
end Go.Gx
end

section
set_option linter.unusedSimpArgs false
set_option linter.unusedVariables false
namespace Go.Gx
open Go Go.Conc Go.Proofs

instance : BoI Tryz.prog 4 := ⟨by kernel_rfl⟩
end Go.Gx
end

section
set_option linter.unusedSimpArgs false
set_option linter.unusedVariables false
namespace Go.Gx
open Go Go.Conc Go.Proofs
variable {main : Bool}

/-! ### the reference's piece and point that is met, and that they are the program's -/
end Go.Gx
end

section
set_option linter.unusedSimpArgs false
set_option linter.unusedVariables false
namespace Go.Gx
open Go Go.Conc Go.Proofs
variable {main : Bool}

end Go.Gx
end

section
set_option linter.unusedSimpArgs false
set_option linter.unusedVariables false
namespace Go.Gx
open Go Go.Conc Go.Proofs
variable {main : Bool}

end Go.Gx
end

section
set_option linter.unusedSimpArgs false
set_option linter.unusedVariables false
namespace Go.Gx
open Go Go.Conc Go.Proofs
variable {main : Bool}

end Go.Gx
end

section
set_option linter.unusedSimpArgs false
set_option linter.unusedVariables false
namespace Go.Gx
open Go Go.Conc Go.Proofs
variable {main : Bool}

end Go.Gx
end

section
/-
  LOGIC G: what a call has made is put behind the cells that one knows by their places.
-/
set_option linter.unusedSimpArgs false
set_option linter.unusedVariables false
namespace Go.Gx
open Go Go.Conc
/-- 'Y' is 'sf ++ X' with the own cells that stand first in 'X' ahead of 'sf'. -/
class Back (sf X : Facts) (Y : outParam Facts) : Prop where
  s : Sub Y (sf ++ X)
instance (priority := low) backNil {sf X : Facts} : Back sf X (sf ++ X) := ⟨Sub.refl _⟩
instance backCons {sf X Y : Facts} {r : Nat} {o : Obj} [h : Back sf X Y] : Back sf (.own r o :: X) (.own r o :: Y) :=
  ⟨(Sub.cons _ h.s).trans (Sub.of_perm List.perm_middle.symm)⟩
theorem At.back {P : Program} {main : Bool} {L : Lg P main} {f : FuncId} {ro : Option Nat} {ds : Dz} {cs : List Frame} {n : Nat} {E : Env} {k : List Item} {sf X Y : Facts} [hb : Back sf X Y] (h : At L f ro ds cs n E Y k) : At L f ro ds cs n E (sf ++ X) k :=
  h.weakH hb.s
end Go.Gx
end

section
set_option linter.unusedSimpArgs false
set_option linter.unusedVariables false
namespace Go.Gx
open Go Go.Conc Go.Proofs

end Go.Gx
end

section
set_option linter.unusedSimpArgs false
set_option linter.unusedVariables false
namespace Go.Gx
open Go Go.Conc Go.Proofs
variable {main : Bool}

end Go.Gx
end

section
set_option linter.unusedSimpArgs false
set_option linter.unusedVariables false
namespace Go.Gx
open Go Go.Conc Go.Proofs
variable {main : Bool}

end Go.Gx
end

section
set_option linter.unusedSimpArgs false
set_option linter.unusedVariables false
namespace Go.Gx
open Go Go.Conc Go.Proofs

end Go.Gx
end

section
set_option linter.unusedSimpArgs false
set_option linter.unusedVariables false
namespace Go.Gx
open Go Go.Conc Go.Proofs
variable {main : Bool}

end Go.Gx
end

section
set_option linter.unusedSimpArgs false
set_option linter.unusedVariables false
namespace Go.Gx
open Go Go.Conc Go.Proofs
variable {main : Bool}

/-! ### where a line meets the canvas, and in which row -/
theorem mem_states {B : Bk} {e : Int} : e ∈ statesM B ↔ (B.lo ≤ e ∧ e ≤ B.hi) ∧ rightM B e = true := by
  unfold statesM bandL
  rw [List.mem_filter, List.mem_map]
  constructor
  · rintro ⟨⟨k, hk, rfl⟩, h⟩
    rw [List.mem_range] at hk
    exact ⟨by omega, h⟩
  · rintro ⟨h1, h⟩
    exact ⟨⟨(e - B.lo).toNat, by rw [List.mem_range]; omega, by omega⟩, h⟩
/-! ### the reference's sorting -/
end Go.Gx
end

section
set_option linter.unusedSimpArgs false
set_option linter.unusedVariables false
namespace Go.Gx
open Go Go.Conc Go.Proofs
variable {main : Bool}

end Go.Gx
end

section
set_option linter.unusedSimpArgs false
set_option linter.unusedVariables false
namespace Go.Gx
open Go Go.Conc Go.Proofs
variable {main : Bool}

end Go.Gx
end

section
set_option linter.unusedSimpArgs false
set_option linter.unusedVariables false
namespace Go.Gx
open Go Go.Conc Go.Proofs
variable {main : Bool}

end Go.Gx
end

section
set_option linter.unusedSimpArgs false
set_option linter.unusedVariables false
namespace Go.Gx
open Go Go.Conc Go.Proofs
variable {main : Bool}

end Go.Gx
end

section
set_option linter.unusedSimpArgs false
set_option linter.unusedVariables false
namespace Go.Gx
open Go Go.Conc Go.Proofs

end Go.Gx
end

section
/-
  LOGIC G: a growing list is shared: nobody writes it any more.
-/
set_option linter.unusedSimpArgs false
set_option linter.unusedVariables false
namespace Go.Gx
open Go Go.Conc
end Go.Gx
end

section
set_option linter.unusedSimpArgs false
set_option linter.unusedVariables false
namespace Go.Gx
open Go Go.Conc Go.Proofs
variable {main : Bool}

/-! ### a book whose marks are right for an eye -/
/-! ### the plain law of CanvasReal -/
end Go.Gx
end

section
set_option linter.unusedSimpArgs false
set_option linter.unusedVariables false
namespace Go.Gx
open Go Go.Conc Go.Proofs

end Go.Gx
end

section
set_option linter.unusedSimpArgs false
set_option linter.unusedVariables false
namespace Go.Gx
open Go Go.Conc Go.Proofs
variable {main : Bool}

/-! ### the plain law of CanvasReached -/
end Go.Gx
end

section
set_option linter.unusedSimpArgs false
set_option linter.unusedVariables false
namespace Go.Gx
open Go Go.Conc Go.Proofs

end Go.Gx
end

section
set_option linter.unusedSimpArgs false
set_option linter.unusedVariables false
namespace Go.Gx
open Go Go.Conc Go.Proofs

/-! ### the plain law of CanvasNeeded -/
end Go.Gx
end

section
set_option linter.unusedSimpArgs false
set_option linter.unusedVariables false
namespace Go.Gx
open Go Go.Conc Go.Proofs

/-! ### marks the other way round -/
end Go.Gx
end

section
set_option linter.unusedSimpArgs false
set_option linter.unusedVariables false
namespace Go.Gx
open Go Go.Conc Go.Proofs

end Go.Gx
end

section
set_option linter.unusedSimpArgs false
set_option linter.unusedVariables false
namespace Go.Gx
open Go Go.Conc Go.Proofs
variable {main : Bool}

/-! ### a book that knows more -/
structure Knows (B C : Bk) : Prop where
  b : bookBar B = 0
  c : bookBar C = 0
  r : ∀ e s, rowM C e s = rowM B e s
  s : ∀ e ∈ statesM C, e ∈ statesM B
  n : (statesM C).length ≠ 0
theorem Knows.n' {B C : Bk} (h : Knows B C) : (statesM B).length ≠ 0 := by
  have h1 : 0 < (statesM C).length := by have := h.n; omega
  have := List.length_pos_of_mem (h.s _ (List.getElem_mem h1))
  omega
end Go.Gx
end

section
set_option linter.unusedSimpArgs false
set_option linter.unusedVariables false
namespace Go.Gx
open Go Go.Conc Go.Proofs

end Go.Gx
end

section
set_option linter.unusedSimpArgs false
set_option linter.unusedVariables false
namespace Go.Gx
open Go Go.Conc Go.Proofs

/-! ### an upright canvas -/
end Go.Gx
end

section
set_option linter.unusedSimpArgs false
set_option linter.unusedVariables false
namespace Go.Gx
open Go Go.Conc Go.Proofs

end Go.Gx
end

section
set_option linter.unusedSimpArgs false
set_option linter.unusedVariables false
namespace Go.Gx
open Go Go.Conc Go.Proofs
variable {main : Bool}

set_option maxRecDepth 100000 in
set_option maxHeartbeats 4000000 in
/-- Earlier (ref01) -/
theorem s132 (L : Lg Tryz.prog main) (H : Facts) {a a' : Option Addr} {n n' cap cap' : Nat} {xs ys : List Int} (hn : xs.length = n) (hn' : ys.length = n') (hr : Rd H a (xs.flatMap c1)) (hr' : Rd H a' (ys.flatMap c1)) (hl : xs.length ≤ 1000) (hl' : ys.length ≤ 1000) :
    Pure L 132 #[.slice a n cap, .slice a' n' cap'] H (.bool (decide (cmpL xs ys < 0))) := by
  subst hn hn'
  refine Spec.enter Tryz.func132 rfl (by simp [Tryz.f132]) fun c cs hc => ?_; refine At.seq (At.region ?_); refine At.v rfl rfl rfl rfl rfl trivial ?_; refine At.regionEnd (At.seq (At.seq (At.region ?_))); refine At.v rfl rfl rfl rfl rfl trivial ?_; refine At.regionEnd ?_; refine At.block ?_
  refine At.lpk (X := { j : Nat // j ≤ xs.length ∧ j ≤ ys.length ∧ cmpL (xs.drop j) (ys.drop j) = cmpL xs ys }) [0, 1] (fun x => [(5, .int .i64 (x.1 : Int))]) (fun _ => H) (fun x => xs.length - x.1) (⟨0, Nat.zero_le _, Nat.zero_le _, rfl⟩) rfl ?_ (by repeat (first | exact trivial | refine ⟨rfl, ?_⟩)) sb
  rintro ⟨j, hj, hj', hd⟩ again
  simp only at again ⊢
  refine At.seq (At.seq (At.region ?_)); (iterate 2 refine At.v rfl rfl rfl rfl rfl trivial ?_); refine At.ln rfl rfl rfl rfl rfl rfl rfl rfl ?_; refine At.cp rfl rfl rfl rfl rfl fun b9 h9 => ?_; refine At.v rfl rfl rfl rfl rfl trivial ?_
  by_cases hlt : j < xs.length
  · by_cases hlt' : j < ys.length
    · have e9 : b9 = true := by rw [← h9]; simpa using hlt
      subst e9
      (iterate 2 refine At.v rfl rfl rfl rfl rfl trivial ?_); refine At.ln rfl rfl rfl rfl rfl rfl rfl rfl ?_; refine At.cp rfl rfl rfl rfl rfl fun b14 h14 => ?_; refine At.v rfl rfl rfl rfl rfl trivial ?_; refine At.regionEnd ?_
      have e14 : b14 = true := by rw [← h14]; simpa using hlt'
      subst e14
      obtain ⟨b, off, rfl, hc1⟩ := hr.el (List.getElem?_eq_getElem hlt)
      obtain ⟨b', off', rfl, hc2⟩ := hr'.el (List.getElem?_eq_getElem hlt')
      rw [List.drop_eq_getElem_cons hlt, List.drop_eq_getElem_cons hlt', cmpL] at hd
      refine At.cond rfl ?_; refine At.skip (At.seq ?_); refine At.block ?_; refine At.seq ?_; refine At.drawJ hmix [] rfl ?_; refine Pool.v 0 rfl rfl rfl rfl rfl rfl rfl trivial ?_; refine Pool.v 1 rfl rfl rfl rfl rfl rfl rfl trivial ?_; refine Pool.q 2 rfl rfl rfl rfl rfl (q_ia rfl rfl rfl (by assumption)) rfl ?_; refine Pool.ldc 3 rfl rfl rfl rfl rfl rfl rfl hc1.a rfl rfl rfl ?_; refine Pool.v 4 rfl rfl rfl rfl rfl rfl rfl trivial ?_; refine Pool.v 5 rfl rfl rfl rfl rfl rfl rfl trivial ?_
      refine Pool.q 6 rfl rfl rfl rfl rfl (q_ia rfl rfl rfl (by assumption)) rfl ?_; refine Pool.ldc 7 rfl rfl rfl rfl rfl rfl rfl hc2.a rfl rfl rfl ?_; refine Pool.cp 8 rfl rfl rfl rfl rfl rfl rfl fun b26 h26 => ?_; refine pool_done rfl rfl ?_; refine At.regionEnd ?_
      cases b26
      · have e : xs[j] = ys[j] := by simpa using h26
        rw [if_neg (by simp [cmpI, e])] at hd
        refine At.cond rfl ?_; refine At.skip ?_; refine At.inBlock ?_; refine At.region ?_; refine At.v rfl rfl rfl rfl rfl trivial ?_; refine At.v rfl rfl rfl rfl rfl (by omega) ?_; refine At.v rfl rfl rfl rfl rfl trivial ?_; refine At.regionEnd ?_
        refine At.tA ((again ⟨j + 1, hlt, hlt', hd⟩ (by simp; omega)))
      · have e : xs[j] ≠ ys[j] := by simpa using h26
        have ec : cmpI xs[j] ys[j] = if xs[j] < ys[j] then -1 else 1 := by
          unfold cmpI
          by_cases h : xs[j] < ys[j]
          · rw [if_pos h, if_pos h]
          · rw [if_neg h, if_neg h, if_pos (by omega)]
        rw [if_pos (by rw [ec]; split <;> decide), ec] at hd
        have e2 : decide (cmpL xs ys < 0) = decide (xs[j] < ys[j]) := by
          rw [← hd]
          by_cases h : xs[j] < ys[j]
          · rw [if_pos h]; simp [h]
          · rw [if_neg h]; simp [h]
        refine At.cond rfl ?_; refine At.seq ?_; refine At.drawJ hmix [] rfl ?_; refine Pool.v 0 rfl rfl rfl rfl rfl rfl rfl trivial ?_; refine Pool.v 1 rfl rfl rfl rfl rfl rfl rfl trivial ?_; refine Pool.q 2 rfl rfl rfl rfl rfl (q_ia rfl rfl rfl (by assumption)) rfl ?_; refine Pool.ldc 3 rfl rfl rfl rfl rfl rfl rfl hc1.a rfl rfl rfl ?_; refine Pool.v 4 rfl rfl rfl rfl rfl rfl rfl trivial ?_; refine Pool.v 5 rfl rfl rfl rfl rfl rfl rfl trivial ?_
        refine Pool.q 6 rfl rfl rfl rfl rfl (q_ia rfl rfl rfl (by assumption)) rfl ?_; refine Pool.ldc 7 rfl rfl rfl rfl rfl rfl rfl hc2.a rfl rfl rfl ?_; refine Pool.cp 8 rfl rfl rfl rfl rfl rfl rfl fun b35 h35 => ?_; refine Pool.v 9 rfl rfl rfl rfl rfl rfl rfl trivial ?_; refine pool_done rfl rfl ?_; refine At.regionEnd ?_
        exact At.ret Tryz.func132 (.inr ⟨_, rfl⟩) rfl (.tmp rfl .nil) (wk (hc _ _ (⟨by rw [e2, h35]; rfl, rfl⟩)))
    · have e9 : b9 = true := by rw [← h9]; simpa using hlt
      subst e9
      (iterate 2 refine At.v rfl rfl rfl rfl rfl trivial ?_); refine At.ln rfl rfl rfl rfl rfl rfl rfl rfl ?_; refine At.cp rfl rfl rfl rfl rfl fun b14 h14 => ?_; refine At.v rfl rfl rfl rfl rfl trivial ?_; refine At.regionEnd ?_
      have e14 : b14 = false := by rw [← h14]; simpa using hlt'
      subst e14
      have e : j = ys.length := by omega
      subst e
      rw [List.drop_length, List.drop_eq_getElem_cons hlt, cmpL] at hd
      have e2 : decide (cmpL xs ys < 0) = decide (xs.length < ys.length) := by
        rw [← hd, decide_eq_decide]; omega
      refine At.cond rfl ?_; refine At.exit rfl ?_; refine At.seq (At.region ?_); refine At.v rfl rfl rfl rfl rfl trivial ?_; refine At.ln rfl rfl rfl rfl rfl rfl rfl rfl ?_; refine At.v rfl rfl rfl rfl rfl trivial ?_; refine At.ln rfl rfl rfl rfl rfl rfl rfl rfl ?_; refine At.cp rfl rfl rfl rfl rfl fun b40 h40 => ?_; refine At.v rfl rfl rfl rfl rfl trivial ?_; refine At.regionEnd ?_
      exact At.ret Tryz.func132 (.inr ⟨_, rfl⟩) rfl (.tmp rfl .nil) (wk (hc _ _ (⟨by rw [e2]; simp_all [resVal]; try omega, rfl⟩)))
  · have e9 : b9 = false := by rw [← h9]; simpa using hlt
    subst e9
    have e : j = xs.length := by omega
    subst e
    have e2 : decide (cmpL xs ys < 0) = decide (xs.length < ys.length) := by
      rw [← hd, List.drop_length, decide_eq_decide]
      rcases Nat.lt_or_ge xs.length ys.length with h | h
      · rw [List.drop_eq_getElem_cons h, cmpL]; omega
      · have : xs.length = ys.length := by omega
        rw [this, List.drop_length, cmpL]; omega
    (iterate 4 refine At.un rfl rfl rfl rfl ?_); refine At.v rfl rfl rfl rfl rfl trivial ?_; refine At.regionEnd ?_; refine At.cond rfl ?_; refine At.exit rfl ?_; refine At.seq (At.region ?_); refine At.v rfl rfl rfl rfl rfl trivial ?_; refine At.ln rfl rfl rfl rfl rfl rfl rfl rfl ?_; refine At.v rfl rfl rfl rfl rfl trivial ?_; refine At.ln rfl rfl rfl rfl rfl rfl rfl rfl ?_; refine At.cp rfl rfl rfl rfl rfl fun b40 h40 => ?_; refine At.v rfl rfl rfl rfl rfl trivial ?_; refine At.regionEnd ?_
    exact At.ret Tryz.func132 (.inr ⟨_, rfl⟩) rfl (.tmp rfl .nil) (wk (hc _ _ (⟨by rw [e2]; simp_all [resVal]; try omega, rfl⟩)))
set_option maxRecDepth 100000 in
set_option maxHeartbeats 1000000 in
/-- Smaller (ref01) -/
theorem s62 (L : Lg Tryz.prog main) (H : Facts) {a a' : Option Addr} {n n' cap cap' : Nat} {xs ys : List Int} (hn : xs.length = n) (hn' : ys.length = n') (hr : Rd H a (xs.flatMap c1)) (hr' : Rd H a' (ys.flatMap c1)) (hl : xs.length ≤ 1000) (hl' : ys.length ≤ 1000) :
    Pure L 62 #[.slice a n cap, .slice a' n' cap'] H (.bool (smallerM xs ys)) := by
  subst hn hn'
  refine Spec.enter Tryz.func62 rfl (by simp [Tryz.f62]) fun c cs hc => ?_
  have stop132 := trivial
  refine At.seq (At.region ?_); refine At.v rfl rfl rfl rfl rfl trivial ?_; refine At.regionEnd (At.seq (At.region ?_)); refine At.v rfl rfl rfl rfl rfl trivial ?_; refine At.ln rfl rfl rfl rfl rfl rfl rfl rfl ?_; refine At.v rfl rfl rfl rfl rfl trivial ?_; refine At.ln rfl rfl rfl rfl rfl rfl rfl rfl ?_; refine At.cp rfl rfl rfl rfl rfl fun b9 h9 => ?_; refine At.v rfl rfl rfl rfl rfl trivial ?_
  cases b9
  · refine At.v rfl rfl rfl rfl rfl trivial ?_
    refine At.ln rfl rfl rfl rfl rfl rfl rfl rfl ?_; refine At.v rfl rfl rfl rfl rfl trivial ?_; refine At.ln rfl rfl rfl rfl rfl rfl rfl rfl ?_; refine At.cp rfl rfl rfl rfl rfl fun b15 h15 => ?_; refine At.v rfl rfl rfl rfl rfl trivial ?_
    cases b15
    · refine At.un rfl rfl rfl rfl ?_
      (iterate 2 refine At.un rfl rfl rfl rfl ?_); (iterate 3 refine At.v rfl rfl rfl rfl rfl trivial ?_); refine At.regionEnd ?_
      exact At.ret Tryz.func62 (.inr ⟨_, rfl⟩) rfl (.tmp rfl .nil) (wk (hc _ _ (⟨by simp_all [resVal, smallerM]; try omega, rfl⟩)))
    · refine At.v rfl rfl rfl rfl rfl trivial ?_
      refine At.v rfl rfl rfl rfl rfl trivial ?_
      clear stop132
      refine At.cq rfl rfl rfl rfl rfl rfl rfl rfl (s132 L _ rfl rfl hr hr' hl hl') ?_
      have a1 : xs.length = ys.length := by simp at h15; omega
      have a2 : smallerM xs ys = decide (cmpL xs ys < 0) := by simp [smallerM, a1]
      (iterate 3 refine At.v rfl rfl rfl rfl rfl trivial ?_); refine At.regionEnd ?_
      exact At.ret Tryz.func62 (.inr ⟨_, rfl⟩) rfl (.tmp rfl .nil) (wk (hc _ _ (⟨by rw [a2]; rfl, rfl⟩)))
  · refine At.un rfl rfl rfl rfl ?_
    (iterate 9 refine At.un rfl rfl rfl rfl ?_); (iterate 2 refine At.v rfl rfl rfl rfl rfl trivial ?_); refine At.regionEnd ?_
    exact At.ret Tryz.func62 (.inr ⟨_, rfl⟩) rfl (.tmp rfl .nil) (wk (hc _ _ (⟨by simp_all [resVal, smallerM], rfl⟩)))
/-- A book with the marks at some places alone. -/
def onlyM (B : Bk) (l : List Nat) : Bk := { B with marks := l.map fun i => B.marks.getD i ((0, 0), 0) }
theorem onlyM_take {B : Bk} {l : List Nat} {j : Nat} (h : j < l.length) (hm : l[j] < B.marks.length) : (onlyM B (l.take (j + 1))).marks = (onlyM B (l.take j)).marks ++ [B.marks[l[j]]] := by
  unfold onlyM
  simp only
  rw [List.take_succ_eq_append_getElem h, List.map_append, List.map_cons, List.map_nil, List.getD_eq_getElem?_getD, List.getElem?_eq_getElem hm]
  rfl
set_option maxRecDepth 100000 in
set_option maxHeartbeats 4000000 in
/-- Only (ref02) -/
theorem s60 (L : Lg Tryz.prog main) (H : Facts) {B : Bk} {A : BkA} {a : Option Addr} {n cap : Nat} {l : List Nat} (hn : l.length = n) (hB : BkR H B A) (hr : Rd H a ((l.map Int.ofNat).flatMap c1)) (hm : ∀ i ∈ l, i < B.marks.length) (hl : l.length ≤ 1000) (hlm : B.marks.length ≤ 1000) :
    Grows L 60 #[bkV B A, .slice a n cap] H (fun v sf => ∃ a cap, v = bkV (onlyM B l) ⟨A.pa, A.pc, a, cap⟩ ∧ Sl c3 94 (.slice a (onlyM B l).marks.length cap) (onlyM B l).marks sf) := by
  subst hn
  refine Spec.enter Tryz.func60 rfl (by simp [Tryz.f60]) fun c cs hc => ?_
  have hrm := hB.m
  obtain ⟨pa, pc, ma, mc⟩ := A
  simp only at hrm
  refine At.seq (At.region ?_); refine At.bx rfl rfl rfl rfl rfl rfl rfl fun r2 => ?_; refine At.al rfl rfl rfl rfl rfl fun r4 => ?_; refine At.regionEnd (At.seq (At.region ?_)); refine At.ld 1 rfl rfl rfl rfl rfl rfl rfl rfl rfl ?_; refine At.al rfl rfl rfl rfl rfl fun r5 => ?_; refine At.st 0 rfl rfl rfl rfl rfl rfl rfl rfl rfl rfl rfl rfl ?_; refine At.regionEnd (At.seq (At.region ?_)); refine At.fa 4 rfl rfl rfl rfl rfl rfl rfl ?_
  refine At.st 0 rfl rfl rfl rfl rfl rfl rfl rfl rfl rfl rfl rfl ?_; refine At.regionEnd (At.seq (At.seq (At.region ?_))); refine At.v rfl rfl rfl rfl rfl trivial ?_; refine At.regionEnd ?_; refine At.block ?_
  refine At.lpk (X := { x : Nat × Option Addr × Nat × Facts // x.1 ≤ l.length ∧ Sl c3 94 (.slice x.2.1 (onlyM B (l.take x.1)).marks.length x.2.2.1) (onlyM B (l.take x.1)).marks x.2.2.2 }) [1, 2, 4, 5] (fun x => [(6, .int .i64 (x.1.1 : Int))]) (fun x => .own r5 (.cells #[.slice pa B.prof.length pc, .int .i64 B.size, .int .i64 B.lo, .int .i64 B.hi, .slice x.1.2.1 (onlyM B (l.take x.1.1)).marks.length x.1.2.2.1] 27 (0, 0)) :: .own r4 (.cells #[.slice none 0 0, .int .i64 0, .int .i64 0, .int .i64 0, .slice none 0 0] 27 (0, 0)) :: .own r2 (.cells (List.toArray (bkC B ⟨pa, pc, ma, mc⟩)) 27 (0, 0)) :: (x.1.2.2.2 ++ H)) (fun x => l.length - x.1.1) (⟨(0, none, 0, []), Nat.zero_le _, Sl.nil⟩) rfl ?_ (by repeat (first | exact trivial | refine ⟨rfl, ?_⟩)) sb
  rintro ⟨⟨j, a1, cap1, sf⟩, hj, hsl⟩ again
  simp only at again hj hsl ⊢
  have hlen : (onlyM B (l.take j)).marks.length ≤ 1000 := by simp only [onlyM, List.length_map, List.length_take]; omega
  refine At.seq (At.seq (At.region ?_)); (iterate 2 refine At.v rfl rfl rfl rfl rfl trivial ?_); refine At.ln rfl rfl rfl rfl rfl rfl rfl rfl ?_; refine At.cp rfl rfl rfl rfl rfl fun b12 h12 => ?_; refine At.regionEnd ?_
  cases b12
  · have e : j = l.length := by simp at h12; omega
    subst e
    rw [List.take_length] at *
    refine At.cond rfl ?_; refine At.exit rfl ?_; refine At.seq (At.region ?_); refine At.ld 0 rfl rfl rfl rfl rfl rfl rfl rfl rfl ?_; refine At.st 1 rfl rfl rfl rfl rfl rfl rfl rfl rfl rfl rfl rfl ?_; refine At.regionEnd ?_
    exact At.ret Tryz.func60 (.inr ⟨_, rfl⟩) rfl (.aggJ 1 rfl rfl rfl .nil) (wk (hc _ _ (⟨sf, ⟨a1, cap1, rfl, hsl⟩, rfl⟩)))
  · have hlt : j < l.length := by simp at h12; omega
    have hlt2 : j < (l.map Int.ofNat).length := by simpa using hlt
    obtain ⟨b, off, rfl, hc1⟩ := hr.el (List.getElem?_eq_getElem hlt2)
    rw [List.getElem_map] at hc1
    have hk := hm _ (List.getElem_mem hlt)
    obtain ⟨b', off', e', hc2⟩ := hrm.el (List.getElem?_eq_getElem hk)
    subst e'
    have hsc := onlyM_take (B := B) hlt hk
    obtain ⟨k, hke⟩ : ∃ k, l[j] = k := ⟨_, rfl⟩
    simp only [hke] at hc1 hk hc2 hsc
    have hc1' : Cells H b (off + j * 1) (c1 (k : Int)) := hc1
    clear hc1
    have stopDraw := trivial
    refine At.cond rfl ?_; refine At.skip (At.seq ?_); refine At.block ?_
    clear stopDraw
    refine At.drawS hmix 3 rfl ?_; refine Pool.fa 4 0 rfl rfl rfl rfl rfl rfl rfl rfl rfl ?_; refine Pool.ld 0 1 rfl rfl rfl rfl rfl rfl rfl rfl rfl rfl rfl ?_; refine Pool.fa 4 2 rfl rfl rfl rfl rfl rfl rfl rfl rfl ?_; refine Pool.ld 2 3 rfl rfl rfl rfl rfl rfl rfl rfl rfl rfl rfl ?_; refine Pool.v 4 rfl rfl rfl rfl rfl rfl rfl trivial ?_; refine Pool.v 5 rfl rfl rfl rfl rfl rfl rfl trivial ?_; refine Pool.q 6 rfl rfl rfl rfl rfl (q_ia rfl rfl rfl (by assumption)) rfl ?_
    refine Pool.ldc 7 rfl rfl rfl rfl rfl rfl rfl hc1'.a rfl rfl rfl ?_; refine Pool.q 8 rfl rfl rfl rfl rfl (q_ia rfl rfl rfl (by assumption)) rfl ?_; refine Pool.ldc 9 rfl rfl rfl rfl rfl rfl rfl hc2.a rfl rfl rfl ?_; refine Pool.bs 10 rfl rfl rfl rfl rfl rfl rfl rfl rfl rfl rfl rfl rfl rfl rfl sb fun r25 => ?_; refine Pool.fa 4 12 rfl rfl rfl rfl rfl rfl rfl rfl rfl ?_
    refine Pool.push (x := B.marks[k]) 11 0 4 rfl rfl rfl rfl rfl rfl rfl rfl rfl rfl rfl rfl rfl rfl rfl rfl rfl rfl rfl rfl rfl hsl rfl rfl rfl (by repeat (first | exact Sub.refl _ | exact Sub.pre _ _ | apply Sub.cons | apply Sub.drop | apply Sub.appL | apply Sub.dropL)) (by omega) fun v sf' hs' => ?_
    rw [← hsc] at hs'
    obtain ⟨a', cap', rfl⟩ := hs'.slice
    have ag := again ⟨(j + 1, a', cap', sf'), hlt, hs'⟩ (by simp; omega)
    simp only at ag
    skip
    refine Pool.flush 13 (Hq' := H) rfl rfl rfl rfl rfl rfl (by repeat (first | exact Sub.refl _ | exact Sub.pre _ _ | apply Sub.cons | apply Sub.drop | apply Sub.appL | apply Sub.dropL)) ?_; refine Pool.st 1 13 rfl rfl rfl rfl rfl rfl rfl rfl rfl rfl rfl rfl rfl rfl rfl rfl rfl rfl sb ?_; refine pool_done rfl rfl ?_; refine At.regionEnd ?_; refine At.inBlock ?_; refine At.region ?_; refine At.v rfl rfl rfl rfl rfl trivial ?_; refine At.v rfl rfl rfl rfl rfl (by omega) ?_
    refine At.v rfl rfl rfl rfl rfl trivial ?_; refine At.regionEnd ?_
    refine At.tA (ag)
theorem IsSl.some' {sz : Nat} {T : TypeId} {v : Value} {vs : List Value} {m : Nat} {sf : Facts} (h : IsSl sz T v vs m sf) (h0 : 0 < m) : ∃ b c, v = .slice (some ⟨b, 0, none⟩) m c := by
  cases h with
  | nil => omega
  | own b cap _ _ _ => exact ⟨_, _, rfl⟩
theorem sl_erase {v : Value} {xs : List Int} {i m : Nat} {vs : List Value} {sf : Facts} (h : IsSl 1 3 v vs m sf) (hv : vs = (xs.take i).flatMap c1 ++ (xs.drop (i + 1)).flatMap c1) (hm : m = xs.length - 1) (hi : i < xs.length) : Sl c1 3 v (xs.eraseIdx i) sf := by
  unfold Sl
  rw [List.length_eraseIdx_of_lt hi, List.eraseIdx_eq_take_drop_succ, List.flatMap_append, ← hm, ← hv]
  exact h
set_option maxRecDepth 100000 in
set_option maxHeartbeats 4000000 in
/-- Drop (ref01) -/
theorem s61 (L : Lg Tryz.prog main) (H : Facts) {a : Option Addr} {n cap i : Nat} {xs : List Int} (hn : xs.length = n) (hr : Rd H a (xs.flatMap c1)) (hi : i < xs.length) (hl : xs.length ≤ 1000) (hcp : xs.length ≤ cap) :
    Grows L 61 #[.slice a n cap, .int .i64 (i : Int)] H (fun v sf => Sl c1 3 v (xs.eraseIdx i) sf) := by
  subst hn
  refine Spec.enter Tryz.func61 rfl (by simp [Tryz.f61]) fun c cs hc => ?_
  have stopDraw := trivial
  refine At.seq (At.region ?_); refine At.v rfl rfl rfl rfl rfl trivial ?_; refine At.regionEnd (At.seq ?_)
  clear stopDraw
  refine At.draw hmix (_) sb ?_
  have hrh := (hr.slA (c := c1) (cap := cap) (l := 0) hcp (by omega)).hd (c := c1) i
  rw [List.drop_zero] at hrh
  have hrt := hr.slA (c := c1) (cap := cap) (l := i + 1) hcp (by omega)
  have hi1 : ((i : Int) + 1) = ((i + 1 : Nat) : Int) := by simp
  refine Pool.v 1 rfl rfl rfl rfl rfl rfl rfl trivial ?_; refine Pool.v 2 rfl rfl rfl rfl rfl rfl rfl trivial ?_; refine Pool.q 3 rfl rfl rfl rfl rfl (q_sliceH (h := (i)) rfl rfl rfl (by omega)) rfl ?_; refine Pool.v 5 rfl rfl rfl rfl rfl rfl rfl trivial ?_; refine Pool.v 6 rfl rfl rfl rfl rfl rfl rfl trivial ?_; refine Pool.v 7 rfl rfl rfl rfl rfl rfl rfl (by omega) ?_; refine Pool.q 8 rfl rfl rfl rfl rfl (q_sliceL (l := (i + 1)) rfl rfl rfl (by assumption)) rfl ?_
  refine Pool.bs 0 rfl rfl rfl rfl rfl rfl rfl rfl rfl rfl rfl rfl rfl rfl rfl sb fun r5 => ?_
  rcases Nat.eq_zero_or_pos i with h0 | h0
  · subst h0
    refine Pool.one 4 rfl rfl rfl rfl rfl (loud_l rfl rfl rfl rfl rfl (l_appI 0 (t := 38) (t' := 38) (vs := []) (rest := []) (ws := []) rfl rfl rfl rfl rfl rfl rfl rfl rfl (.inl rfl) rfl (by simp) (by omega) rfl) ?_)
    rintro _ _ ⟨rfl, rfl⟩
    refine ⟨(by repeat (first | exact Sub.refl _ | exact Sub.pre _ _ | apply Sub.cons | apply Sub.drop | apply Sub.appL | apply Sub.dropL)), ?_⟩
    skip
    refine Pool.one 9 rfl rfl rfl rfl rfl (loud_app (ops := _) (H₀ := H) rfl rfl rfl rfl rfl rfl rfl rfl rfl rfl rfl rfl rfl rfl (IsSl.own r5 0 0 [] [] rfl rfl (by omega)) (List.Perm.refl _) (hrt.a) (by rw [flat_len (c := c1), List.length_drop]) flat_one (.inr ⟨_, _, _, rfl⟩) (by omega) (by repeat (first | exact Sub.refl _ | exact Sub.pre _ _ | apply Sub.cons | apply Sub.drop | apply Sub.appL | apply Sub.dropL)) fun v2 sm2 hsm2 => ?_)
    refine Pool.v 10 rfl rfl rfl rfl rfl rfl rfl trivial ?_; refine pool_done rfl rfl ?_; refine At.regionEnd ?_
    exact At.ret Tryz.func61 (.inr ⟨_, rfl⟩) rfl (.tmp rfl .nil) (wk (hc _ _ (⟨sm2, sl_erase hsm2 (by simp) (by omega) hi, rfl⟩)))
  · refine Pool.one 4 rfl rfl rfl rfl rfl (loud_app (ops := _) (H₀ := H) rfl rfl rfl rfl rfl rfl rfl rfl rfl rfl rfl rfl rfl rfl (IsSl.own r5 0 0 [] [] rfl rfl (by omega)) (List.Perm.refl _) (hrh.a) (by rw [flat_len (c := c1), List.length_take, Nat.min_eq_left (by omega)]) flat_one (.inr ⟨_, _, _, rfl⟩) (by omega) (by repeat (first | exact Sub.refl _ | exact Sub.pre _ _ | apply Sub.cons | apply Sub.drop | apply Sub.appL | apply Sub.dropL)) fun v sm hsm0 => ?_)
    obtain ⟨b1, cp1, e1⟩ := hsm0.some' (by omega)
    subst e1
    skip
    refine Pool.one 9 rfl rfl rfl rfl rfl (loud_app (ops := _) (H₀ := H) rfl rfl rfl rfl rfl rfl rfl rfl rfl rfl rfl rfl rfl rfl hsm0 (List.Perm.refl _) (hrt.a) (by rw [flat_len (c := c1), List.length_drop]) flat_one (.inr ⟨_, _, _, rfl⟩) (by omega) (by repeat (first | exact Sub.refl _ | exact Sub.pre _ _ | apply Sub.cons | apply Sub.drop | apply Sub.appL | apply Sub.dropL)) fun v2 sm2 hsm2 => ?_)
    refine Pool.v 10 rfl rfl rfl rfl rfl rfl rfl trivial ?_; refine pool_done rfl rfl ?_; refine At.regionEnd ?_
    exact At.ret Tryz.func61 (.inr ⟨_, rfl⟩) rfl (.tmp rfl .nil) (wk (hc _ _ (⟨sm2, sl_erase hsm2 (by simp) (by omega) hi, rfl⟩)))
end Go.Gx
end

section
set_option linter.unusedSimpArgs false
set_option linter.unusedVariables false
namespace Go.Gx
open Go Go.Conc Go.Proofs

/-! ### sets of marks, by numbers -/
def idxN (mask : Nat) : Nat → List Nat
  | 0 => []
  | i + 1 => idxN mask i ++ (if bitM mask i then [i] else [])
theorem idxTo_N (mask : Nat) : ∀ i, idxTo mask i = (idxN mask i).map Int.ofNat
  | 0 => rfl
  | i + 1 => by
    unfold idxTo idxN
    rw [idxTo_N mask i, List.map_append]
    split <;> rfl
theorem mksTo_N (B : Bk) (mask : Nat) : ∀ i, mksTo B mask i = (idxN mask i).map fun k => B.marks.getD k ((0, 0), 0)
  | 0 => rfl
  | i + 1 => by
    unfold mksTo idxN
    rw [mksTo_N B mask i, List.map_append]
    split <;> rfl
theorem subM_N (B : Bk) (mask : Nat) : subM B mask = onlyM B (idxN mask B.marks.length) := by
  unfold subM onlyM
  rw [mksTo_N]
theorem idxN_lt {mask : Nat} : ∀ {i k : Nat}, k ∈ idxN mask i → k < i
  | 0, k, h => by cases h
  | i + 1, k, h => by
    unfold idxN at h
    rcases List.mem_append.1 h with h | h
    · have := idxN_lt h; omega
    · split at h
      · rw [List.mem_singleton] at h; omega
      · cases h
theorem idxN_len (mask i : Nat) : (idxN mask i).length ≤ i := by
  have := idxTo_len mask i
  rwa [idxTo_N, List.length_map] at this
theorem idx_climbs (n : Nat) (hn : n ≤ 4) (j : Nat) (hj : j < 16) : climbsM (n : Int) none (idxTo j n) = 0 := by
  have h : ∀ n ∈ List.range 5, ∀ j ∈ List.range 16, climbsM ((n : Nat) : Int) none (idxTo j n) = 0 := by decide
  exact h n (List.mem_range.2 (by omega)) j (List.mem_range.2 hj)
theorem idx_erase (n : Nat) (hn : n ≤ 4) (j : Nat) (hj : j < 16) (i : Nat) (hi : i < (idxN j n).length) : ∃ q, q < 2 ^ n ∧ idxN q n = (idxN j n).eraseIdx i := by
  have h : ∀ n ∈ List.range 5, ∀ j ∈ List.range 16, ∀ i ∈ List.range 4, i < (idxN j n).length → ∃ q ∈ List.range 16, q < 2 ^ n ∧ idxN q n = (idxN j n).eraseIdx i := by decide
  obtain ⟨q, _, h1, h2⟩ := h n (List.mem_range.2 (by omega)) j (List.mem_range.2 hj) i (List.mem_range.2 (by have := idxN_len j n; omega)) hi
  exact ⟨q, h1, h2⟩
theorem bit_mod {m n i : Nat} (h : i < n) : bitM (m % 2 ^ n) i = bitM m i := by
  unfold bitM
  have h1 := Nat.testBit_mod_two_pow m n i
  rw [Nat.testBit_eq_decide_div_mod_eq, Nat.testBit_eq_decide_div_mod_eq] at h1
  rw [h1]; simp [h]
theorem idx_mod (m n : Nat) : ∀ i, i ≤ n → idxN (m % 2 ^ n) i = idxN m i
  | 0, _ => rfl
  | i + 1, h => by
    unfold idxN
    rw [idx_mod m n i (by omega), bit_mod (by omega)]
/-! ### the order of lists -/
theorem cmpL_irr : ∀ xs : List Int, cmpL xs xs = 0
  | [] => rfl
  | x :: xs => by
    unfold cmpL
    have : cmpI x x = 0 := by unfold cmpI; rw [if_neg (by omega), if_neg (by omega)]
    rw [this, if_neg (by simp)]
    exact cmpL_irr xs
theorem cmpI_neg {x y : Int} : cmpI x y < 0 ↔ x < y := by
  unfold cmpI
  split
  · simp; omega
  · split
    · simp; omega
    · simp; omega
theorem cmpI_zero {x y : Int} : cmpI x y = 0 ↔ x = y := by
  unfold cmpI
  split
  · simp; omega
  · split
    · simp; omega
    · simp; omega
theorem cmpL_neg_cons {x y : Int} {xs ys : List Int} : cmpL (x :: xs) (y :: ys) < 0 ↔ x < y ∨ (x = y ∧ cmpL xs ys < 0) := by
  rw [cmpL]
  by_cases h : cmpI x y = 0
  · have e := cmpI_zero.1 h
    rw [if_neg (by simpa using h)]
    constructor
    · exact fun h2 => .inr ⟨e, h2⟩
    · rintro (h2 | ⟨_, h2⟩)
      · omega
      · exact h2
  · rw [if_pos h]
    have e : x ≠ y := fun e => h (cmpI_zero.2 e)
    rw [cmpI_neg]
    constructor
    · exact .inl
    · rintro (h2 | ⟨h2, _⟩)
      · exact h2
      · exact absurd h2 e
theorem cmpL_trans : ∀ {xs ys zs : List Int}, xs.length = ys.length → ys.length = zs.length → cmpL xs ys < 0 → cmpL ys zs < 0 → cmpL xs zs < 0
  | [], [], _, _, _, h, _ => absurd h (by decide)
  | [], _ :: _, _, h, _, _, _ => by simp at h
  | _ :: _, [], _, h, _, _, _ => by simp at h
  | _ :: _, _ :: _, [], _, h, _, _ => by simp at h
  | x :: xs, y :: ys, z :: zs, h1, h2, h3, h4 => by
    rw [cmpL_neg_cons] at h3 h4 ⊢
    rcases h3 with h3 | ⟨rfl, h3⟩
    · rcases h4 with h4 | ⟨rfl, h4⟩
      · exact .inl (by omega)
      · exact .inl h3
    · rcases h4 with h4 | ⟨rfl, h4⟩
      · exact .inl h4
      · exact .inr ⟨rfl, cmpL_trans (by simpa using h1) (by simpa using h2) h3 h4⟩
theorem smaller_spec {xs ys : List Int} : smallerM xs ys = true ↔ xs.length < ys.length ∨ (xs.length = ys.length ∧ cmpL xs ys < 0) := by
  unfold smallerM
  rw [decide_eq_true_eq]
theorem smaller_irr (xs : List Int) : smallerM xs xs = false := by
  rw [Bool.eq_false_iff, ne_eq, smaller_spec, cmpL_irr]
  omega
theorem smaller_trans {xs ys zs : List Int} (h1 : smallerM xs ys = true) (h2 : smallerM ys zs = true) : smallerM xs zs = true := by
  rw [smaller_spec] at *
  rcases h1 with h1 | ⟨h1, h3⟩
  · rcases h2 with h2 | ⟨h2, _⟩
    · left; omega
    · left; omega
  · rcases h2 with h2 | ⟨h2, h4⟩
    · left; omega
    · right; exact ⟨by omega, cmpL_trans h1 h2 h3 h4⟩
theorem bestM_leq {α : Type} {r : α → α → Bool} (hi : ∀ x, r x x = false) (ht : ∀ {x y z}, r x y = true → r y z = true → r x z = true) : ∀ (l : List α) (one : α), bestM r one l = one ∨ r (bestM r one l) one = true
  | [], one => .inl rfl
  | x :: l, one => by
    show bestM r (if r x one = true then x else one) l = one ∨ _
    by_cases h : r x one = true
    · have e : bestM r one (x :: l) = bestM r x l := by show bestM r (if r x one = true then x else one) l = _; rw [if_pos h]
      rw [e]
      rcases bestM_leq hi ht l x with h1 | h1
      · rw [h1]; exact .inr h
      · exact .inr (ht h1 h)
    · have e : bestM r one (x :: l) = bestM r one l := by show bestM r (if r x one = true then x else one) l = _; rw [if_neg h]
      rw [if_neg h, e]
      exact bestM_leq hi ht l one
theorem bestM_least {α : Type} {r : α → α → Bool} (hi : ∀ x, r x x = false) (ht : ∀ {x y z}, r x y = true → r y z = true → r x z = true) : ∀ (l : List α) (one : α), ∀ y ∈ one :: l, r y (bestM r one l) = false
  | [], one, y, hy => by
    obtain rfl : y = one := by simpa using hy
    exact hi _
  | x :: l, one, y, hy => by
    have e : bestM r one (x :: l) = bestM r (if r x one = true then x else one) l := rfl
    rw [e]
    have key : ∀ w, bestM r w l = w ∨ r (bestM r w l) w = true := fun w => bestM_leq hi ht l w
    have no : ∀ w z, (bestM r w l = w ∨ r (bestM r w l) w = true) → r z w = false → r z (bestM r w l) = false := by
      intro w z h1 h2
      rcases h1 with h1 | h1
      · rw [h1]; exact h2
      · cases h3 : r z (bestM r w l)
        · rfl
        · rw [ht h3 h1] at h2; cases h2
    by_cases h : r x one = true
    · rw [if_pos h]
      rcases List.mem_cons.1 hy with rfl | hy
      · refine no x y (key x) ?_
        cases h3 : r y x
        · rfl
        · have := ht h3 h; rw [hi] at this; cases this
      · exact bestM_least hi ht l x y hy
    · rw [if_neg h]
      rcases List.mem_cons.1 hy with rfl | hy
      · exact bestM_least hi ht l y y (List.mem_cons_self ..)
      · rcases List.mem_cons.1 hy with rfl | hy
        · exact no one y (key one) (by simpa using h)
        · exact bestM_least hi ht l one y (List.mem_cons_of_mem _ hy)
/-! ### the least set of marks that clash -/
def oddB (B : Bk) (l : List Nat) : Prop := (statesM (onlyM B l)).length = 0
theorem mem_odd {B : Bk} {N : Nat} {l : List Int} : l ∈ oddTo B N ↔ ∃ j, j < N ∧ oddB B (idxN j B.marks.length) ∧ l = idxTo j B.marks.length := by
  induction N with
  | zero => simp [oddTo]
  | succ N ih =>
    unfold oddTo
    rw [List.mem_append, ih]
    constructor
    · rintro (⟨j, h1, h2, h3⟩ | h)
      · exact ⟨j, by omega, h2, h3⟩
      · split at h
        · rename_i h0
          refine ⟨N, by omega, ?_, by simpa using h⟩
          unfold oddB
          rw [← subM_N]; exact h0
        · cases h
    · rintro ⟨j, h1, h2, h3⟩
      by_cases e : j = N
      · subst e
        right
        unfold oddB at h2
        rw [← subM_N] at h2
        rw [if_pos h2, h3]
        simp
      · exact .inl ⟨j, by omega, h2, h3⟩
theorem only_nil {B : Bk} (hz : bookBar B = 0) : ¬ oddB B [] := by
  intro h
  have hb := bounds_of_bar hz
  have hm : B.lo ∈ statesM (onlyM B []) := by
    refine mem_states.2 ⟨⟨Int.le_refl _, by show B.lo ≤ B.hi; omega⟩, ?_⟩
    simp [rightM, onlyM]
  have := List.length_pos_of_mem hm
  unfold oddB at h
  omega
theorem only_bar {B : Bk} (hz : bookBar B = 0) {l : List Nat} (hl : l.length ≤ 4) (hm : ∀ i ∈ l, i < B.marks.length) : bookBar (onlyM B l) = 0 := by
  have hb := bounds_of_bar hz
  refine bookBar_marks hz (by simpa using hl) fun m h => ?_
  obtain ⟨i, hi, rfl⟩ := List.mem_map.1 h
  have := hm i hi
  rw [List.getD_eq_getElem?_getD, List.getElem?_eq_getElem this]
  exact hb.2.2.2.2.2.2.2.2.2.2 _ (List.getElem_mem _)
theorem clash_law {B : Bk} (hz : bookBar B = 0) (h0 : (statesM B).length = 0) :
    ∃ l : List Nat, clashL B = l.map Int.ofNat ∧ 0 < l.length ∧ l.length ≤ 4 ∧ (∀ i ∈ l, i < B.marks.length) ∧ climbsM B.marks.length none (l.map Int.ofNat) = 0 ∧ oddB B l ∧
      (∀ i, i < l.length → ¬ oddB B (l.eraseIdx i)) ∧ ∀ bits, oddB B (idxN bits B.marks.length) → smallerM ((idxN bits B.marks.length).map Int.ofNat) (l.map Int.ofNat) = false := by
  have hb := bounds_of_bar hz
  have hm4 : B.marks.length ≤ 4 := by omega
  have hN : 2 ^ B.marks.length ≤ 16 := Nat.pow_le_pow_right (by omega) hm4
  have hp := odd_pos h0
  have hhd : (oddTo B (2 ^ B.marks.length)) = (oddTo B (2 ^ B.marks.length)).headD [] :: (oddTo B (2 ^ B.marks.length)).drop 1 := by
    cases h : oddTo B (2 ^ B.marks.length) with
    | nil => rw [h] at hp; simp at hp
    | cons x l => rfl
  have hmin := bestM_least smaller_irr (fun h1 h2 => smaller_trans h1 h2) ((oddTo B (2 ^ B.marks.length)).drop 1) ((oddTo B (2 ^ B.marks.length)).headD [])
  have hmem := bestM_mem smallerM ((oddTo B (2 ^ B.marks.length)).headD []) ((oddTo B (2 ^ B.marks.length)).drop 1)
  rw [← hhd] at hmin hmem
  have ec : clashL B = bestM smallerM ((oddTo B (2 ^ B.marks.length)).headD []) ((oddTo B (2 ^ B.marks.length)).drop 1) := by
    unfold clashL; rw [if_pos h0]
  rw [← ec] at hmin hmem
  obtain ⟨j, h1, h2, h3⟩ := mem_odd.1 hmem
  rw [idxTo_N] at h3
  have hall : ∀ q, q < 2 ^ B.marks.length → oddB B (idxN q B.marks.length) → smallerM ((idxN q B.marks.length).map Int.ofNat) ((idxN j B.marks.length).map Int.ofNat) = false := by
    intro q hq ho
    have := hmin _ (mem_odd.2 ⟨q, hq, ho, rfl⟩)
    rwa [idxTo_N, h3] at this
  have hlen := idxN_len j B.marks.length
  refine ⟨idxN j B.marks.length, h3, ?_, by omega, fun i hi => idxN_lt hi, ?_, h2, ?_, ?_⟩
  · rcases Nat.eq_zero_or_pos (idxN j B.marks.length).length with h | h
    · have := List.eq_nil_of_length_eq_zero h
      rw [this] at h2
      exact absurd h2 (only_nil hz)
    · exact h
  · rw [← idxTo_N]
    exact idx_climbs _ hm4 _ (by omega)
  · intro i hi ho
    obtain ⟨q, hq, hqe⟩ := idx_erase _ hm4 j (by omega) i hi
    rw [← hqe] at ho
    have h4 := hall q hq ho
    rw [Bool.eq_false_iff, ne_eq, smaller_spec] at h4
    apply h4
    left
    rw [List.length_map, List.length_map, hqe, List.length_eraseIdx_of_lt hi]
    omega
  · intro bits ho
    have := hall (bits % 2 ^ B.marks.length) (Nat.mod_lt _ (Nat.two_pow_pos _)) (by rw [idx_mod _ _ _ (Nat.le_refl _)]; exact ho)
    rwa [idx_mod _ _ _ (Nat.le_refl _)] at this
end Go.Gx
end

section
set_option linter.unusedSimpArgs false
set_option linter.unusedVariables false
namespace Go.Gx
open Go Go.Conc Go.Proofs

theorem erase_map {α β : Type} (f : α → β) : ∀ (l : List α) (i : Nat), (l.map f).eraseIdx i = (l.eraseIdx i).map f
  | [], i => by simp
  | x :: l, 0 => rfl
  | x :: l, i + 1 => by simp [erase_map f l i]
set_option maxRecDepth 100000 in
set_option maxHeartbeats 4000000 in
/-- CanvasClashes -/
theorem law13 {Post : Value → World → Prop} {W₀ : World} {H Hg : Facts} (hG : Glo H Hg) (hsh : ∀ f ∈ H, f.isOwn = false) {B : Bk} {A : BkA} (hBk : BkR H B A) {bits : Int} (hbits : 0 ≤ bits ∧ bits ≤ 255) :
    LawAt (mainLg Tryz.prog Post W₀ [] []) 13 #[bkV B A, .int .u8 bits] H (.bool true) := by
  refine LawAt.enter Tryz.func13 rfl (by simp [Tryz.f13]) fun cs hLB => ?_
  obtain ⟨pa, pc, ma, mc⟩ := A
  obtain ⟨msk, rfl⟩ : ∃ k : Nat, bits = k := ⟨bits.toNat, by omega⟩
  generalize hL : mainLg Tryz.prog Post W₀ [] [] = L at hLB ⊢
  have stop22 := trivial
  refine At.seq (At.region ?_); refine At.bx rfl rfl rfl rfl rfl rfl rfl fun r2 => ?_; refine At.v rfl rfl rfl rfl rfl trivial ?_; refine At.regionEnd (At.seq (At.seq (At.region ?_))); refine At.ld 0 rfl rfl rfl rfl rfl rfl rfl rfl rfl ?_; refine At.cqb rfl rfl rfl rfl rfl rfl rfl rfl (s39 L _ bs) fun b19 h19 => ?_; refine At.v rfl rfl rfl rfl rfl trivial ?_; refine At.regionEnd ?_
  cases b19
  · refine At.cond rfl ?_
    refine At.seq (At.region ?_)
    subst hL
    refine At.cq rfl rfl rfl rfl rfl rfl rfl rfl (s22 hG.a) ?_; refine At.v rfl rfl rfl rfl rfl trivial ?_; refine At.regionEnd ?_
    exact hLB Tryz.func13 (.inr ⟨_, rfl⟩) rfl (.tmp rfl .nil) (⟨by rfl, rfl⟩)
  have hf : fitM B = true := h19
  have hz : bookBar B = 0 := by simp [fitM] at hf; exact hf.2.2
  have hg : Cells H 0 0 chkC := hG.g.a hG.sub
  have hb := bounds_of_bar hz
  have hrm := hBk.m
  have hO : Opn H B ⟨pa, pc, ma, mc⟩ := ⟨hg, hBk, by omega, by omega⟩
  simp only at hrm
  have q59 := fun H_ (hO_ : Opn H_ B ⟨pa, pc, ma, mc⟩) => s59c L H_ hO_
  have q51 := fun H_ (hO_ : Opn H_ B ⟨pa, pc, ma, mc⟩) => s51 L H_ hO_
  have l1 := statesM_len hz
  by_cases h0 : (statesM B).length = 0
  · obtain ⟨l, e1, hl0, hl4, hlm, hcl, ho, her, hot⟩ := clash_law hz h0
    have hcm : clashM B = (l.map Int.ofNat, 0) := by unfold clashM; rw [if_neg (by simpa using hz), e1]
    have hs0 : statesM B = [] := List.eq_nil_of_length_eq_zero h0
    simp only [hcm, hz, hs0, ne_eq, not_true_eq_false, if_false, List.length_map] at q59 q51
    have stop59 := trivial
    refine At.cond rfl ?_; refine At.skip (At.seq (At.region ?_)); refine At.ld 0 rfl rfl rfl rfl rfl rfl rfl rfl rfl ?_
    clear stop59
    refine At.cl rfl rfl rfl rfl rfl rfl rfl rfl (q59 _ hO.a) ?_
    rintro _ _ ⟨sf1, ⟨a1, cap1, rfl, hrd1, hcp1⟩, rfl⟩
    refine At.back ?_
    have stop51 := trivial
    (iterate 5 refine At.v rfl rfl rfl rfl rfl trivial ?_); refine At.regionEnd (At.seq (At.region ?_)); refine At.ld 0 rfl rfl rfl rfl rfl rfl rfl rfl rfl ?_
    clear stop51
    refine At.cl rfl rfl rfl rfl rfl rfl rfl rfl (q51 _ hO.a) ?_
    rintro _ _ ⟨sf2, ⟨a2, cap2, rfl, hsl2⟩, rfl⟩
    refine At.back ?_
    have q45 := fun H_ (hr_ : Rd H_ a1 ((l.map Int.ofNat).flatMap c1)) => s45 L H_ (a := a1) (n := l.length) (cap := cap1) (xs := l.map Int.ofNat) (lim := B.marks.length) (by simp) hr_ (by simp; omega) ⟨by omega, by omega⟩
    rw [hcl] at q45
    have stop45 := trivial
    (iterate 5 refine At.v rfl rfl rfl rfl rfl trivial ?_); refine At.regionEnd (At.seq (At.seq (At.region ?_))); refine At.v rfl rfl rfl rfl rfl trivial ?_; refine At.cp rfl rfl rfl rfl rfl fun b33 h33 => ?_; refine At.v rfl rfl rfl rfl rfl trivial ?_
    obtain rfl : b33 = false := h33.symm.trans (by kernel_rfl)
    refine At.v rfl rfl rfl rfl rfl trivial ?_; refine At.cp rfl rfl rfl rfl rfl fun b36 h36 => ?_; (iterate 2 refine At.v rfl rfl rfl rfl rfl trivial ?_)
    obtain rfl : b36 = false := h36.symm.trans (by kernel_rfl)
    refine At.v rfl rfl rfl rfl rfl trivial ?_; refine At.fa 4 rfl rfl rfl rfl rfl rfl rfl ?_; refine At.ld 0 rfl rfl rfl rfl rfl rfl rfl rfl rfl ?_; refine At.ln rfl rfl rfl rfl rfl rfl rfl rfl ?_
    clear stop45
    refine At.cq rfl rfl rfl rfl rfl rfl rfl rfl (q45 _ hrd1.a) ?_
    have hbar : ∀ k : List Nat, k.length ≤ 4 → (∀ i ∈ k, i < B.marks.length) → bookBar (onlyM B k) = 0 := fun k h1 h2 => only_bar hz h1 h2
    have q60 := fun H_ (k : List Nat) (n_ : Nat) (a_ : Option Addr) (cap_ : Nat) (h0_ : k.length = n_) (h1_ : k.length ≤ 4) (h2_ : ∀ i ∈ k, i < B.marks.length) (hB_ : BkR H_ B ⟨pa, pc, ma, mc⟩) (hr_ : Rd H_ a_ ((k.map Int.ofNat).flatMap c1)) => s60 L H_ (cap := cap_) h0_ hB_ hr_ h2_ (by omega) (by omega)
    have hol : ∀ k : List Nat, k.length ≤ 4 → (onlyM B k).marks.length ≤ 100000 := by intro k hk; simp only [onlyM, List.length_map]; omega
    have q51o : ∀ H_ (k : List Nat) (a_ : Option Addr) (cap_ : Nat), k.length ≤ 4 → (∀ i ∈ k, i < B.marks.length) → Cells H_ 0 0 chkC → BkR H_ B ⟨pa, pc, ma, mc⟩ → Rd H_ a_ ((onlyM B k).marks.flatMap c3) →
        Grows L 51 #[bkV (onlyM B k) ⟨pa, pc, a_, cap_⟩] H_ (fun v sf => ∃ a cap, v = .tuple #[.slice a (statesM (onlyM B k)).length cap, .int .i64 0] ∧ Sl c1 3 (.slice a (statesM (onlyM B k)).length cap) (statesM (onlyM B k)) sf) := by
      intro H_ k a_ cap_ h1 h2 h3 h4 h5
      have := s51 L H_ (B := onlyM B k) (A := ⟨pa, pc, a_, cap_⟩) ⟨h3, ⟨h4.p, h5⟩, by show B.prof.length ≤ 100000; omega, hol k h1⟩
      rw [hbar k h1 h2] at this
      exact this
    have stop60 := trivial
    refine At.cp rfl rfl rfl rfl rfl fun b44 h44 => ?_; (iterate 2 refine At.v rfl rfl rfl rfl rfl trivial ?_)
    obtain rfl : b44 = false := h44.symm.trans (by kernel_rfl)
    refine At.v rfl rfl rfl rfl rfl trivial ?_; refine At.ln rfl rfl rfl rfl rfl rfl rfl rfl ?_; refine At.cp rfl rfl rfl rfl rfl fun b49 h49 => ?_; refine At.v rfl rfl rfl rfl rfl trivial ?_; refine At.ln rfl rfl rfl rfl rfl rfl rfl rfl ?_; refine At.cp rfl rfl rfl rfl rfl fun b52 h52 => ?_; refine At.qb rfl rfl rfl rfl (q_neqB rfl rfl rfl) fun b53 h53 => ?_; refine At.v rfl rfl rfl rfl rfl trivial ?_; refine At.regionEnd ?_
    obtain rfl : b49 = false := h49.symm.trans (by kernel_rfl)
    obtain rfl : b52 = false := h52.symm.trans (decide_eq_false (by omega))
    obtain rfl : b53 = false := h53.symm.trans (by kernel_rfl)
    refine At.cond rfl ?_; refine At.skip (At.seq (At.seq (At.region ?_))); refine At.v rfl rfl rfl rfl rfl trivial ?_; refine At.ln rfl rfl rfl rfl rfl rfl rfl rfl ?_; refine At.cp rfl rfl rfl rfl rfl fun b57 h57 => ?_; refine At.regionEnd ?_
    obtain rfl : b57 = false := h57.symm.trans (by kernel_rfl)
    refine At.cond rfl ?_; refine At.skip (At.seq (At.seq (At.region ?_))); refine At.ld 0 rfl rfl rfl rfl rfl rfl rfl rfl rfl ?_; refine At.v rfl rfl rfl rfl rfl trivial ?_
    clear stop60
    refine At.cl rfl rfl rfl rfl rfl rfl rfl rfl (q60 _ l l.length a1 cap1 rfl hl4 hlm hBk.a hrd1.a) ?_
    rintro _ _ ⟨sf3, ⟨a3, cap3, rfl, hsl3⟩, rfl⟩
    refine At.back ?_
    obtain ⟨_, r3, _⟩ := hsl3.rd
    refine At.cl rfl rfl rfl rfl rfl rfl rfl rfl (q51o _ l a3 cap3 hl4 hlm hg.a hBk.a r3.a) ?_
    rw [show statesM (onlyM B l) = [] from List.eq_nil_of_length_eq_zero ho]
    rintro _ _ ⟨sf4, ⟨a4, cap4, rfl, hsl4⟩, rfl⟩
    refine At.back ?_; (iterate 5 refine At.v rfl rfl rfl rfl rfl trivial ?_); refine At.regionEnd (At.seq (At.region ?_)); refine At.v rfl rfl rfl rfl rfl trivial ?_; refine At.cp rfl rfl rfl rfl rfl fun b67 h67 => ?_; refine At.v rfl rfl rfl rfl rfl trivial ?_
    obtain rfl : b67 = false := h67.symm.trans (by kernel_rfl)
    refine At.v rfl rfl rfl rfl rfl trivial ?_; refine At.ln rfl rfl rfl rfl rfl rfl rfl rfl ?_; refine At.cp rfl rfl rfl rfl rfl fun b71 h71 => ?_; refine At.v rfl rfl rfl rfl rfl trivial ?_; refine At.regionEnd ?_
    obtain rfl : b71 = false := h71.symm.trans (by kernel_rfl)
    refine At.cond rfl ?_; refine At.skip (At.seq (At.seq (At.region ?_))); refine At.v rfl rfl rfl rfl rfl trivial ?_; refine At.regionEnd ?_; refine At.block ?_
    refine At.lpk (X := { j : Nat // j ≤ l.length }) [1, 2, 5] (fun x => [(11, .int .i64 (x.1 : Int))]) (fun x => .own r2 (.cells (List.toArray (bkC B ⟨pa, pc, ma, mc⟩)) 27 (0, 0)) :: (sf1 ++ H)) (fun x => l.length - x.1) (⟨0, Nat.zero_le _⟩) rfl ?_ (by repeat (first | exact trivial | refine ⟨rfl, ?_⟩)) sb
    · rintro ⟨j, hj⟩ again
      simp only at again hj ⊢
      refine At.seq (At.seq (At.region ?_)); (iterate 2 refine At.v rfl rfl rfl rfl rfl trivial ?_); refine At.ln rfl rfl rfl rfl rfl rfl rfl rfl ?_; refine At.cp rfl rfl rfl rfl rfl fun b76 h76 => ?_; refine At.regionEnd ?_
      cases b76
      · have e : j = l.length := by simp at h76; omega
        subst e
        refine At.cond rfl ?_; refine At.exit rfl ?_; refine At.seq (At.region ?_); refine At.v rfl rfl rfl rfl rfl trivial ?_; refine At.regionEnd (At.seq (At.seq (At.region ?_))); refine At.v rfl rfl rfl rfl rfl trivial ?_; refine At.regionEnd ?_; refine At.block ?_
        refine At.lpk (X := { x : Nat × Value × Facts // x.1 ≤ B.marks.length ∧ Sl c1 3 x.2.1 ((idxN msk x.1).map Int.ofNat) x.2.2 }) [1, 2, 5] (fun x => [(15, .int .i64 (x.1.1 : Int)), (14, x.1.2.1)]) (fun x => .own r2 (.cells (List.toArray (bkC B ⟨pa, pc, ma, mc⟩)) 27 (0, 0)) :: (x.1.2.2 ++ (sf1 ++ H))) (fun x => B.marks.length - x.1.1) (⟨(0, .slice none 0 0, []), Nat.zero_le _, Sl.nil⟩) rfl ?_ (by repeat (first | exact trivial | refine ⟨rfl, ?_⟩)) sb
        rintro ⟨⟨i, vl, sl⟩, hi, hsl⟩ again2
        simp only at again2 hi hsl ⊢
        refine At.seq (At.seq (At.region ?_)); refine At.v rfl rfl rfl rfl rfl trivial ?_; refine At.fa 4 rfl rfl rfl rfl rfl rfl rfl ?_; refine At.ld 0 rfl rfl rfl rfl rfl rfl rfl rfl rfl ?_; refine At.ln rfl rfl rfl rfl rfl rfl rfl rfl ?_; refine At.cp rfl rfl rfl rfl rfl fun b99 h99 => ?_; refine At.regionEnd ?_
        cases b99
        · have e : i = B.marks.length := by simp at h99; omega
          subst e
          have hlo := idxN_len msk B.marks.length
          have hmo : ∀ i ∈ idxN msk B.marks.length, i < B.marks.length := fun i hi => idxN_lt hi
          obtain ⟨ao, co, rfl⟩ := hsl.slice
          obtain ⟨_, ro, _⟩ := hsl.rd
          have q62 := fun H_ (r1_ : Rd H_ ao (((idxN msk B.marks.length).map Int.ofNat).flatMap c1)) (r2_ : Rd H_ a1 ((l.map Int.ofNat).flatMap c1)) => s62 L H_ (a := ao) (a' := a1) (cap := co) (cap' := cap1) (n := ((idxN msk B.marks.length).map Int.ofNat).length) (n' := l.length) rfl (by simp) r1_ r2_ (by simp; omega) (by simp; omega)
          have stop60 := trivial
          refine At.cond rfl ?_; refine At.exit rfl ?_; refine At.seq (At.region ?_); refine At.ld 0 rfl rfl rfl rfl rfl rfl rfl rfl rfl ?_; refine At.v rfl rfl rfl rfl rfl trivial ?_
          clear stop60
          refine At.cl rfl rfl rfl rfl rfl rfl rfl rfl (q60 _ (idxN msk B.marks.length) _ ao co (by simp) (by omega) hmo hBk.a ro.a) ?_
          rintro _ _ ⟨sf8, ⟨a8, cap8, rfl, hsl8⟩, rfl⟩
          refine At.back ?_
          obtain ⟨_, r8, _⟩ := hsl8.rd
          refine At.cl rfl rfl rfl rfl rfl rfl rfl rfl (q51o _ (idxN msk B.marks.length) a8 cap8 (by omega) hmo hg.a hBk.a r8.a) ?_
          rintro _ _ ⟨sf9, ⟨a9, cap9, rfl, hsl9⟩, rfl⟩
          refine At.back ?_
          have stop62 := trivial
          (iterate 5 refine At.v rfl rfl rfl rfl rfl trivial ?_); refine At.regionEnd (At.seq (At.region ?_)); refine At.v rfl rfl rfl rfl rfl trivial ?_; refine At.cp rfl rfl rfl rfl rfl fun b119 h119 => ?_; refine At.v rfl rfl rfl rfl rfl trivial ?_
          obtain rfl : b119 = true := h119.symm.trans (by kernel_rfl)
          refine At.v rfl rfl rfl rfl rfl trivial ?_; refine At.ln rfl rfl rfl rfl rfl rfl rfl rfl ?_; refine At.cp rfl rfl rfl rfl rfl fun b123 h123 => ?_; refine At.v rfl rfl rfl rfl rfl trivial ?_
          cases b123
          · have h9 : oddB B (idxN msk B.marks.length) := by unfold oddB; simp at h123; simp [h123]
            rw [hot msk h9] at q62
            (iterate 2 refine At.v rfl rfl rfl rfl rfl trivial ?_); refine At.cq rfl rfl rfl rfl rfl rfl rfl rfl (q62 _ ro.a hrd1.a) ?_; (iterate 4 refine At.v rfl rfl rfl rfl rfl trivial ?_)
            subst hL
            refine At.cq rfl rfl rfl rfl rfl rfl rfl rfl (s22 hG.a) ?_; (iterate 2 refine At.v rfl rfl rfl rfl rfl trivial ?_); refine At.regionEnd ?_
            exact hLB Tryz.func13 (.inr ⟨_, rfl⟩) rfl (.tmp rfl .nil) (⟨by rfl, rfl⟩)
          · refine At.un rfl rfl rfl rfl ?_
            (iterate 3 refine At.un rfl rfl rfl rfl ?_); (iterate 3 refine At.v rfl rfl rfl rfl rfl trivial ?_)
            subst hL
            refine At.cq rfl rfl rfl rfl rfl rfl rfl rfl (s22 hG.a) ?_; (iterate 2 refine At.v rfl rfl rfl rfl rfl trivial ?_); refine At.regionEnd ?_
            exact hLB Tryz.func13 (.inr ⟨_, rfl⟩) rfl (.tmp rfl .nil) (⟨by rfl, rfl⟩)
        · have hlti : i < B.marks.length := by simp at h99; omega
          refine At.cond rfl ?_; refine At.skip (At.seq ?_); refine At.block ?_; refine At.seq (At.region ?_); (iterate 2 refine At.v rfl rfl rfl rfl rfl trivial ?_); refine At.q rfl rfl rfl rfl (q_shr (m := msk) (i := i) rfl rfl rfl (by show i ≤ 8; omega)) ?_; refine At.q rfl rfl rfl rfl (q_and8 rfl rfl rfl) ?_; refine At.cp rfl rfl rfl rfl rfl fun b106 h106 => ?_; refine At.regionEnd ?_
          have hbit : bitM msk i = b106 := by
            rw [← h106]; unfold bitM
            exact decide_eq_decide.2 (by omega)
          have hil : ((idxN msk i).map Int.ofNat).length < 100000 := by rw [List.length_map]; have := idxN_len msk i; omega
          cases b106
          · have eix : idxN msk (i + 1) = idxN msk i := by show idxN msk i ++ (if bitM msk i then _ else _) = _; rw [hbit]; simp
            refine At.cond rfl ?_; refine At.skip ?_; refine At.inBlock ?_; refine At.region ?_; refine At.v rfl rfl rfl rfl rfl trivial ?_; refine At.v rfl rfl rfl rfl rfl (by omega) ?_; refine At.v rfl rfl rfl rfl rfl trivial ?_; refine At.regionEnd ?_
            refine At.tA ((again2 ⟨(i + 1, vl, sl), hlti, by rw [eix]; exact hsl⟩ (by simp; omega)))
          · have eix : (idxN msk (i + 1)).map Int.ofNat = (idxN msk i).map Int.ofNat ++ [(i : Int)] := by
              show (idxN msk i ++ (if bitM msk i then _ else _)).map Int.ofNat = _
              rw [hbit]; simp
            refine At.cond rfl ?_; refine At.region ?_; (iterate 2 refine At.v rfl rfl rfl rfl rfl trivial ?_)
            (refine At.l rfl rfl rfl rfl (l_buildSlice rfl rfl rfl rfl rfl) ?_; rintro _ _ ⟨r109, rfl, rfl⟩)
            refine At.push (x := (i : Int)) 0 2 rfl rfl rfl rfl rfl rfl rfl rfl rfl rfl rfl rfl rfl rfl hsl rfl rfl rfl ?_ fun v sf hs => ?_
            · exact hil
            · rw [← eix] at hs
              refine At.v rfl rfl rfl rfl rfl trivial ?_; refine At.regionEnd ?_; refine At.inBlock ?_; refine At.region ?_; refine At.v rfl rfl rfl rfl rfl trivial ?_; refine At.v rfl rfl rfl rfl rfl (by omega) ?_; refine At.v rfl rfl rfl rfl rfl trivial ?_; refine At.regionEnd ?_
              refine At.tA ((again2 ⟨(i + 1, v, sf), hlti, hs⟩ (by simp; omega)))
      · have hlt : j < l.length := by simp at h76; omega
        have hex := her j hlt
        have hle : (l.eraseIdx j).length ≤ 4 := by rw [List.length_eraseIdx_of_lt hlt]; omega
        have hme : ∀ i ∈ l.eraseIdx j, i < B.marks.length := fun i hi => hlm i (List.mem_of_mem_eraseIdx hi)
        have stopDraw := trivial
        refine At.cond rfl ?_; refine At.skip (At.seq ?_); refine At.block ?_; refine At.seq ?_
        clear stopDraw
        refine At.draw hmix (_) sb ?_
        have q61 := fun H_ (hr_ : Rd H_ a1 ((l.map Int.ofNat).flatMap c1)) => s61 L H_ (n := l.length) (cap := cap1) (xs := l.map Int.ofNat) (i := j) (by simp) hr_ (by simpa using hlt) (by simp; omega) (by simpa using hcp1)
        have stop61 := trivial
        refine Pool.ld 0 0 rfl rfl rfl rfl rfl rfl rfl rfl rfl rfl rfl ?_; refine Pool.v 1 rfl rfl rfl rfl rfl rfl rfl trivial ?_; refine Pool.v 2 rfl rfl rfl rfl rfl rfl rfl trivial ?_
        clear stop61
        refine Pool.cl 3 rfl rfl rfl rfl rfl rfl rfl rfl rfl rfl rfl rfl rfl rfl (fun H_ hs_ => q61 H_ hrd1.a) sb ?_
        rintro v sf5 hsl5
        obtain ⟨a5, cp5, rfl⟩ := hsl5.slice
        rw [erase_map] at hsl5
        obtain ⟨_, r5, _⟩ := hsl5.rd
        skip
        refine Pool.cl 4 rfl rfl rfl rfl rfl rfl rfl rfl rfl rfl rfl rfl rfl rfl (fun H_ hs_ => q60 H_ (l.eraseIdx j) _ a5 cp5 (by rw [erase_map, List.length_map]) hle hme hBk.a r5.a) sb ?_
        rintro v sf6 ⟨a6, cap6, rfl, hsl6⟩
        obtain ⟨_, r6, _⟩ := hsl6.rd
        skip
        refine Pool.cl 5 rfl rfl rfl rfl rfl rfl rfl rfl rfl rfl rfl rfl rfl rfl (fun H_ hs_ => q51o H_ (l.eraseIdx j) a6 cap6 hle hme hg.a hBk.a r6.a) sb ?_
        rintro v sf7 ⟨a7, cap7, rfl, hsl7⟩
        have h7 : 0 < (statesM (onlyM B (l.eraseIdx j))).length := by unfold oddB at hex; omega
        refine Pool.v 6 rfl rfl rfl rfl rfl rfl rfl trivial ?_; refine Pool.v 7 rfl rfl rfl rfl rfl rfl rfl trivial ?_; refine Pool.v 8 rfl rfl rfl rfl rfl rfl rfl trivial ?_; refine Pool.v 9 rfl rfl rfl rfl rfl rfl rfl trivial ?_; refine Pool.v 10 rfl rfl rfl rfl rfl rfl rfl trivial ?_; refine pool_done rfl rfl ?_; refine At.regionEnd (At.seq (At.region ?_)); refine At.v rfl rfl rfl rfl rfl trivial ?_; refine At.cp rfl rfl rfl rfl rfl fun b89 h89 => ?_; refine At.v rfl rfl rfl rfl rfl trivial ?_
        obtain rfl : b89 = false := h89.symm.trans (by kernel_rfl)
        refine At.v rfl rfl rfl rfl rfl trivial ?_; refine At.ln rfl rfl rfl rfl rfl rfl rfl rfl ?_; refine At.cp rfl rfl rfl rfl rfl fun b93 h93 => ?_; refine At.v rfl rfl rfl rfl rfl trivial ?_; refine At.regionEnd ?_
        obtain rfl : b93 = false := h93.symm.trans (decide_eq_false (by omega))
        refine At.cond rfl ?_; refine At.skip ?_; refine At.inBlock ?_; refine At.region ?_; refine At.v rfl rfl rfl rfl rfl trivial ?_; refine At.v rfl rfl rfl rfl rfl (by omega) ?_; refine At.v rfl rfl rfl rfl rfl trivial ?_; refine At.regionEnd ?_
        refine At.tA ((again ⟨j + 1, hlt⟩ (by simp; omega)))
  · have hcm : clashM B = ([], 0) := by unfold clashM clashL; rw [if_neg (by simpa using hz), if_neg h0]
    simp only [hcm, hz, ne_eq, not_true_eq_false, if_false, List.length_nil] at q59 q51
    have stop59 := trivial
    refine At.cond rfl ?_; refine At.skip (At.seq (At.region ?_)); refine At.ld 0 rfl rfl rfl rfl rfl rfl rfl rfl rfl ?_
    clear stop59
    refine At.cl rfl rfl rfl rfl rfl rfl rfl rfl (q59 _ hO.a) ?_
    rintro _ _ ⟨sf1, ⟨a1, cap1, rfl, hrd1, hcp1⟩, rfl⟩
    refine At.back ?_
    have stop51 := trivial
    (iterate 5 refine At.v rfl rfl rfl rfl rfl trivial ?_); refine At.regionEnd (At.seq (At.region ?_)); refine At.ld 0 rfl rfl rfl rfl rfl rfl rfl rfl rfl ?_
    clear stop51
    refine At.cl rfl rfl rfl rfl rfl rfl rfl rfl (q51 _ hO.a) ?_
    rintro _ _ ⟨sf2, ⟨a2, cap2, rfl, hsl2⟩, rfl⟩
    refine At.back ?_
    have q45 := fun H_ => s45 L H_ (a := a1) (n := 0) (cap := cap1) (xs := []) (lim := B.marks.length) rfl (.inl rfl) (by simp) ⟨by omega, by omega⟩
    have stop45 := trivial
    (iterate 5 refine At.v rfl rfl rfl rfl rfl trivial ?_); refine At.regionEnd (At.seq (At.seq (At.region ?_))); refine At.v rfl rfl rfl rfl rfl trivial ?_; refine At.cp rfl rfl rfl rfl rfl fun b33 h33 => ?_; refine At.v rfl rfl rfl rfl rfl trivial ?_
    obtain rfl : b33 = false := h33.symm.trans (by kernel_rfl)
    refine At.v rfl rfl rfl rfl rfl trivial ?_; refine At.cp rfl rfl rfl rfl rfl fun b36 h36 => ?_; (iterate 2 refine At.v rfl rfl rfl rfl rfl trivial ?_)
    obtain rfl : b36 = false := h36.symm.trans (by kernel_rfl)
    refine At.v rfl rfl rfl rfl rfl trivial ?_; refine At.fa 4 rfl rfl rfl rfl rfl rfl rfl ?_; refine At.ld 0 rfl rfl rfl rfl rfl rfl rfl rfl rfl ?_; refine At.ln rfl rfl rfl rfl rfl rfl rfl rfl ?_
    clear stop45
    refine At.cq rfl rfl rfl rfl rfl rfl rfl rfl (q45 _) ?_; refine At.cp rfl rfl rfl rfl rfl fun b44 h44 => ?_; (iterate 2 refine At.v rfl rfl rfl rfl rfl trivial ?_)
    obtain rfl : b44 = false := h44.symm.trans (by kernel_rfl)
    refine At.v rfl rfl rfl rfl rfl trivial ?_; refine At.ln rfl rfl rfl rfl rfl rfl rfl rfl ?_; refine At.cp rfl rfl rfl rfl rfl fun b49 h49 => ?_; refine At.v rfl rfl rfl rfl rfl trivial ?_; refine At.ln rfl rfl rfl rfl rfl rfl rfl rfl ?_; refine At.cp rfl rfl rfl rfl rfl fun b52 h52 => ?_; refine At.qb rfl rfl rfl rfl (q_neqB rfl rfl rfl) fun b53 h53 => ?_; refine At.v rfl rfl rfl rfl rfl trivial ?_; refine At.regionEnd ?_
    obtain rfl : b49 = true := h49.symm.trans (decide_eq_true (by omega))
    obtain rfl : b52 = true := h52.symm.trans (by kernel_rfl)
    obtain rfl : b53 = false := h53.symm.trans (by kernel_rfl)
    refine At.cond rfl ?_; refine At.skip (At.seq (At.seq (At.region ?_))); refine At.v rfl rfl rfl rfl rfl trivial ?_; refine At.ln rfl rfl rfl rfl rfl rfl rfl rfl ?_; refine At.cp rfl rfl rfl rfl rfl fun b57 h57 => ?_; refine At.regionEnd ?_
    obtain rfl : b57 = true := h57.symm.trans (decide_eq_true (by omega))
    refine At.cond rfl ?_; refine At.seq (At.region ?_)
    subst hL
    refine At.cq rfl rfl rfl rfl rfl rfl rfl rfl (s22 hG.a) ?_; refine At.v rfl rfl rfl rfl rfl trivial ?_; refine At.regionEnd ?_
    exact hLB Tryz.func13 (.inr ⟨_, rfl⟩) rfl (.tmp rfl .nil) (⟨by rfl, rfl⟩)
end Go.Gx
end

section
set_option linter.unusedSimpArgs false
set_option linter.unusedVariables false
namespace Go.Gx
open Go Go.Conc Go.Proofs Go.ChangeShapes Go.RowKit YtokdmiiejfmomaaGreatDoor
set_option maxRecDepth 100000
theorem ip13 : Tryz.prog.inPlace 13 = [] := by kernel_rfl
theorem uf13 : Tryz.prog.unfollowed 13 = true := by kernel_rfl
theorem rc13 : Tryz.prog.recurses 13 = true := by kernel_rfl
theorem vn13 : Tryz.prog.varsNamed 13 = ["velarium/canvas.checks"] := by kernel_rfl
theorem closed13 : joinedFacts Tryz.prog 13 Tryz.f13 Rows.canvasClashesSpec Rows.canvasClashesRow = true := by
  unfold joinedFacts
  rewrite [ip13, uf13, rc13, vn13, enter1, lf1, make1]
  kernel_rfl
theorem fnm13 : Tryz.prog.funcNamed "velarium/velariumlaw02.CanvasClashes" = some 13 := by kernel_rfl
theorem inst13 : Tryz.f13.isInstance Tryz.prog Rows.canvasClashesRow.origin Rows.canvasClashesRow.targs := of_decide_eq_true (by kernel_rfl)
theorem wrap13 : Tryz.f13.isWrapper Tryz.prog Rows.canvasClashesRow.wrapper Rows.canvasClashesRow.mainSum := by unfold Func.isWrapper; first | (rw [if_pos (by decide +kernel)]; kernel_rfl) | (rw [if_neg (by decide +kernel)]; exact ⟨rfl, rfl⟩)
theorem goes13 : Tryz.prog.goes 13 = true := by kernel_rfl
theorem wbt13 : Rows.canvasClashesRow.wfByText (OpenSpec.ofChange Rows.canvasClashesSpec) = true := by kernel_rfl
theorem wants13 : (Tryz.f13.params.toList.all fun t => !Tryz.prog.wantsStandIn t) = true := by kernel_rfl
theorem lifted13 (os : Os) (started : os.Started) (H : Type) (enc : TypeId × Value → H) :
    ReturnsInLeavingWide {} Tryz.checked os 13 .any (fun w args => (Rows.canvasClashesSpec.pre enc Tryz.prog Tryz.f13 [] false w args ∧ laidMetH Tryz.prog laid1 w) ∧ sizedMet enc Tryz.prog Tryz.f13 (OpenSpec.ofChange Rows.canvasClashesSpec) false w args) (Rows.canvasClashesSpec.post enc Tryz.prog Tryz.f13 false true false false) := by
  refine law_lift Tryz.func13 (by kernel_rfl) rfl rfl (by kernel_rfl) os started H enc #[.agg #[.slice none 0 0, .int .i64 0, .int .i64 0, .int .i64 0, .slice none 0 0], .int .u8 0]
    (World.shaped_of_RefB (by kernel_rfl) (by kernel_rfl)) (by kernel_rfl) (by kernel_rfl) (by kernel_rfl) ?_
  intro W base args ds ps hval hA
  rw [Tryz.params13] at hval hA
  obtain ⟨v0, vs0, d0, ds0, p0, q0, e0, rfl, rfl, h0, hA⟩ := trodAll_cons hA
  obtain ⟨v1, vs1, d1, ds1, p1, q1, rfl, rfl, rfl, h1, hA⟩ := trodAll_cons hA
  obtain ⟨rfl, rfl, rfl⟩ := trodAll_nil hA
  obtain rfl : args = #[v0, v1] := Array.toList_inj.1 e0
  obtain ⟨B0, A0, Hs0, rfl, hsh0, hb0⟩ := open_book (hval 0 27 _ rfl rfl) h0
  obtain ⟨n1, rfl, rfl, rfl, w1⟩ := open_int Tryz.underlying5 (hval 1 5 _ rfl rfl) h1
  exact ⟨rfl, Hs0, hsh0, fun Post => law13 hsh0.glo hsh0.ro (hb0.a (Sub.append_left _ _)) (wf_u8 w1)⟩
theorem said13 : Rows.CanvasClashesSaid :=
  OpenClaim.holds_of_wide_leaving 13 Tryz.f13 rfl rfl rfl rfl rfl rfl rfl ⟨rfl, rfl, rfl, rfl, rfl⟩ rfl rfl rfl rfl rfl fnm13 Tryz.func13 closed13 inst13 wrap13
    (fun os started H enc _ => lifted13 os started H enc)
theorem card13 : Rows.CanvasClashesCardSaid :=
  ⟨Claim7.tied_new_at .later [.funcs] true (Claim7.new_of_sixth said13 (true, "2aeeda9e0b315eb022070bc88bc80a554dcd329f773ad53586088327a2b29430") false rfl ⟨rfl, rfl⟩ mi1 rfl
    (fun f fn hf hfn => by
      obtain rfl : f = 13 := Option.some.inj (hf.symm.trans fnm13)
      obtain rfl : fn = Tryz.f13 := Option.some.inj (hfn.symm.trans Tryz.func13)
      exact ⟨looks1.symm, wants_of wants13⟩)) wbt13, (fun _ h => by cases h), canvasClashes_row_tie, (fun h => by cases h), goes_of fnm13 goes13⟩
end Go.Gx
namespace Go.Proofs.YtokdmiiejfmomaaGreatDoor
/-- THE CARD OF CanvasClashes. -/
theorem canvasClashes_card : Rows.CanvasClashesCardSaid := Go.Gx.card13
#print axioms canvasClashes_card
end Go.Proofs.YtokdmiiejfmomaaGreatDoor
end
