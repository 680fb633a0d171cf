/-
  The law CanvasReached (a height is a state just if the book agrees when the eye stands there; a row is among those of a line just if the book agrees when it is marked): its tied card holds, for every input, without a condition.
-/
import Derived.Test.YtokdmiiejfmomaaGreatDoorW6
import Derived.SevenTiedAt
section
set_option linter.unusedSimpArgs false
set_option linter.unusedVariables false
namespace Go.Gx
open Go Go.Conc Go.Proofs Go.ChangeShapes Go.RowKit YtokdmiiejfmomaaGreatDoor
set_option maxRecDepth 100000
theorem Shr.ro {W : World} {Hs : Facts} (h : Shr W Hs) : ∀ f ∈ ([.seg 0 0 chkC] ++ Hs : Facts), f.isOwn = false := by
  intro f hf
  rcases List.mem_append.1 hf with hf | hf
  · rw [List.mem_singleton] at hf; subst hf; rfl
  · exact (h f hf).1
section
variable {H : Type} {enc : TypeId × Value → H} {W : World} {sp : Nat → Bool} {held : Bool}

end
end Go.Gx
end

section
set_option linter.unusedSimpArgs false
set_option linter.unusedVariables false
namespace Go.Gx
open Go Go.Conc Go.Proofs

instance : BoI Tryz.prog 4 := ⟨by kernel_rfl⟩
theorem low_slope {n d : Int} (h1 : -20 ≤ n ∧ n ≤ 20) (h2 : 1 ≤ d ∧ d ≤ 20) : slopeBar (low n d).1 (low n d).2 = 0 := by
  have key : ∀ a ∈ (List.range 41), ∀ b ∈ (List.range 20), slopeBar (low ((a : Int) - 20) ((b : Int) + 1)).1 (low ((a : Int) - 20) ((b : Int) + 1)).2 = 0 := by decide +kernel
  have := key (n + 20).toNat (by rw [List.mem_range]; omega) (d - 1).toNat (by rw [List.mem_range]; omega)
  rwa [show (((n + 20).toNat : Nat) : Int) - 20 = n by omega, show (((d - 1).toNat : Nat) : Int) + 1 = d by omega] at this
end Go.Gx
end

section
set_option linter.unusedSimpArgs false
set_option linter.unusedVariables false
namespace Go.Gx
open Go Go.Conc Go.Proofs
variable {main : Bool}

/-! ### the reference's piece and point that is met, and that they are the program's -/
end Go.Gx
end

section
set_option linter.unusedSimpArgs false
set_option linter.unusedVariables false
namespace Go.Gx
open Go Go.Conc Go.Proofs
variable {main : Bool}

end Go.Gx
end

section
set_option linter.unusedSimpArgs false
set_option linter.unusedVariables false
namespace Go.Gx
open Go Go.Conc Go.Proofs
variable {main : Bool}

end Go.Gx
end

section
set_option linter.unusedSimpArgs false
set_option linter.unusedVariables false
namespace Go.Gx
open Go Go.Conc Go.Proofs
variable {main : Bool}

end Go.Gx
end

section
set_option linter.unusedSimpArgs false
set_option linter.unusedVariables false
namespace Go.Gx
open Go Go.Conc Go.Proofs
variable {main : Bool}

end Go.Gx
end

section
/-
  LOGIC G: what a call has made is put behind the cells that one knows by their places.
-/
set_option linter.unusedSimpArgs false
set_option linter.unusedVariables false
namespace Go.Gx
open Go Go.Conc
/-- 'Y' is 'sf ++ X' with the own cells that stand first in 'X' ahead of 'sf'. -/
class Back (sf X : Facts) (Y : outParam Facts) : Prop where
  s : Sub Y (sf ++ X)
instance (priority := low) backNil {sf X : Facts} : Back sf X (sf ++ X) := ⟨Sub.refl _⟩
instance backCons {sf X Y : Facts} {r : Nat} {o : Obj} [h : Back sf X Y] : Back sf (.own r o :: X) (.own r o :: Y) :=
  ⟨(Sub.cons _ h.s).trans (Sub.of_perm List.perm_middle.symm)⟩
theorem At.back {P : Program} {main : Bool} {L : Lg P main} {f : FuncId} {ro : Option Nat} {ds : Dz} {cs : List Frame} {n : Nat} {E : Env} {k : List Item} {sf X Y : Facts} [hb : Back sf X Y] (h : At L f ro ds cs n E Y k) : At L f ro ds cs n E (sf ++ X) k :=
  h.weakH hb.s
end Go.Gx
end

section
set_option linter.unusedSimpArgs false
set_option linter.unusedVariables false
namespace Go.Gx
open Go Go.Conc Go.Proofs

end Go.Gx
end

section
set_option linter.unusedSimpArgs false
set_option linter.unusedVariables false
namespace Go.Gx
open Go Go.Conc Go.Proofs
variable {main : Bool}

end Go.Gx
end

section
set_option linter.unusedSimpArgs false
set_option linter.unusedVariables false
namespace Go.Gx
open Go Go.Conc Go.Proofs
variable {main : Bool}

end Go.Gx
end

section
set_option linter.unusedSimpArgs false
set_option linter.unusedVariables false
namespace Go.Gx
open Go Go.Conc Go.Proofs

end Go.Gx
end

section
set_option linter.unusedSimpArgs false
set_option linter.unusedVariables false
namespace Go.Gx
open Go Go.Conc Go.Proofs
variable {main : Bool}

end Go.Gx
end

section
set_option linter.unusedSimpArgs false
set_option linter.unusedVariables false
namespace Go.Gx
open Go Go.Conc Go.Proofs
variable {main : Bool}

/-! ### where a line meets the canvas, and in which row -/
theorem mem_states {B : Bk} {e : Int} : e ∈ statesM B ↔ (B.lo ≤ e ∧ e ≤ B.hi) ∧ rightM B e = true := by
  unfold statesM bandL
  rw [List.mem_filter, List.mem_map]
  constructor
  · rintro ⟨⟨k, hk, rfl⟩, h⟩
    rw [List.mem_range] at hk
    exact ⟨by omega, h⟩
  · rintro ⟨h1, h⟩
    exact ⟨⟨(e - B.lo).toNat, by rw [List.mem_range]; omega, by omega⟩, h⟩
/-! ### the reference's sorting -/
end Go.Gx
end

section
set_option linter.unusedSimpArgs false
set_option linter.unusedVariables false
namespace Go.Gx
open Go Go.Conc Go.Proofs
variable {main : Bool}

theorem sortM3 (a b c : Int) : sortM [a, b, c] = if b < a then (if c < a then (if c < b then [c, b, a] else [b, c, a]) else [b, a, c]) else (if c < b then (if c < a then [c, a, b] else [a, c, b]) else [a, b, c]) := by
  by_cases h1 : b < a <;> by_cases h2 : c < a <;> by_cases h3 : c < b <;> simp [sortM, outM, innerM, List.range_succ, h1, h2, h3]
end Go.Gx
end

section
set_option linter.unusedSimpArgs false
set_option linter.unusedVariables false
namespace Go.Gx
open Go Go.Conc Go.Proofs
variable {main : Bool}

end Go.Gx
end

section
set_option linter.unusedSimpArgs false
set_option linter.unusedVariables false
namespace Go.Gx
open Go Go.Conc Go.Proofs
variable {main : Bool}

end Go.Gx
end

section
set_option linter.unusedSimpArgs false
set_option linter.unusedVariables false
namespace Go.Gx
open Go Go.Conc Go.Proofs
variable {main : Bool}

end Go.Gx
end

section
set_option linter.unusedSimpArgs false
set_option linter.unusedVariables false
namespace Go.Gx
open Go Go.Conc Go.Proofs

theorem compactM_len : ∀ (l : List Int), (compactM l).length ≤ l.length
  | [] => Nat.le_refl _
  | [x] => Nat.le_refl _
  | x :: y :: l => by
    have := compactM_len (y :: l)
    unfold compactM
    split
    · simp at this ⊢; omega
    · simp at this ⊢; omega
theorem rowsM_len {B : Bk} (hz : bookBar B = 0) {s : R2} : (rowsM B s).length ≤ 3 := by
  unfold rowsM
  refine Nat.le_trans (compactM_len _) ?_
  rw [sortM_len]
  exact Nat.le_trans (List.length_filter_le _ _) (rowsOf_len hz s)
end Go.Gx
end

section
/-
  LOGIC G: a growing list is shared: nobody writes it any more.
-/
set_option linter.unusedSimpArgs false
set_option linter.unusedVariables false
namespace Go.Gx
open Go Go.Conc
end Go.Gx
end

section
set_option linter.unusedSimpArgs false
set_option linter.unusedVariables false
namespace Go.Gx
open Go Go.Conc Go.Proofs
variable {main : Bool}

/-! ### a book whose marks are right for an eye -/
/-! ### the plain law of CanvasReal -/
theorem sortM_mem3 {l : List Int} (h : l.length ≤ 3) (x : Int) : x ∈ compactM (sortM l) ↔ x ∈ l := by
  match l, h with
  | [], _ => simp [sortM, outM, innerM, compactM]
  | [a], _ => simp [sortM, outM, innerM, compactM, List.range_succ]
  | [a, b], _ =>
    have e : sortM [a, b] = if b < a then [b, a] else [a, b] := by
      by_cases h1 : b < a <;> simp [sortM, outM, innerM, List.range_succ, h1]
    rw [e]
    split
    · unfold compactM
      split
      · simp [compactM]; omega
      · simp [compactM]; omega
    · unfold compactM
      split
      · simp [compactM]; omega
      · simp [compactM]
  | [a, b, c], _ =>
    rw [sortM3]
    have key : ∀ p q r : Int, x ∈ compactM [p, q, r] ↔ x = p ∨ x = q ∨ x = r := by
      intro p q r
      unfold compactM
      split
      · rename_i h1
        unfold compactM
        split
        · simp [compactM]; omega
        · simp [compactM]; omega
      · unfold compactM
        split
        · simp [compactM]; omega
        · simp [compactM]
    split <;> split <;> (try split) <;> rw [key] <;> simp <;> omega
theorem rowsM_mem {B : Bk} (hz : bookBar B = 0) {s : R2} {x : Int} : x ∈ rowsM B s ↔ x ≠ -1 ∧ ∃ e ∈ statesM B, rowM B e s = x := by
  unfold rowsM
  rw [sortM_mem3 (Nat.le_trans (List.length_filter_le _ _) (rowsOf_len hz s)), List.mem_filter]
  unfold rowsOf
  rw [List.mem_map]
  simp only [decide_eq_true_eq]
  exact And.comm
end Go.Gx
end

section
set_option linter.unusedSimpArgs false
set_option linter.unusedVariables false
namespace Go.Gx
open Go Go.Conc Go.Proofs

end Go.Gx
end

section
set_option linter.unusedSimpArgs false
set_option linter.unusedVariables false
namespace Go.Gx
open Go Go.Conc Go.Proofs
variable {main : Bool}

def sameM (B C : Bk) : Bool := decide (B.size = C.size ∧ (B.lo = C.lo ∧ B.hi = C.hi) ∧ B.prof = C.prof ∧ B.marks = C.marks)
set_option maxRecDepth 100000 in
set_option maxHeartbeats 4000000 in
/-- Same (ref02) -/
theorem s78 (L : Lg Tryz.prog main) (H : Facts) {B C : Bk} {A D : BkA} (hB : BkR H B A) (hC : BkR H C D) (hl : B.prof.length ≤ 100000) (hm : B.marks.length ≤ 100000) : Pure L 78 #[bkV B A, bkV C D] H (.bool (sameM B C)) := by
  refine Spec.enter Tryz.func78 rfl (by simp [Tryz.f78]) fun c cs hc => ?_
  have hp1 := hB.p
  have hp2 := hC.p
  have hm1 := hB.m
  have hm2 := hC.m
  unfold sameM at hc
  refine At.seq (At.region ?_); refine At.bx rfl rfl rfl rfl rfl rfl rfl fun r2 => ?_; refine At.bx rfl rfl rfl rfl rfl rfl rfl fun r3 => ?_; refine At.v rfl rfl rfl rfl rfl trivial ?_; refine At.regionEnd (At.seq (At.seq (At.region ?_))); refine At.fa 1 rfl rfl rfl rfl rfl rfl rfl ?_; refine At.ld 1 rfl rfl rfl rfl rfl rfl rfl rfl rfl ?_; refine At.fa 1 rfl rfl rfl rfl rfl rfl rfl ?_; refine At.ld 0 rfl rfl rfl rfl rfl rfl rfl rfl rfl ?_; refine At.cp rfl rfl rfl rfl rfl fun b11 h11 => ?_
  refine At.v rfl rfl rfl rfl rfl trivial ?_
  cases b11
  rotate_left
  · have e : B.size ≠ C.size := by simpa using h11
    rw [decide_eq_false (fun h => e h.1)] at hc
    (iterate 5 refine At.un rfl rfl rfl rfl ?_); (iterate 2 refine At.v rfl rfl rfl rfl rfl trivial ?_); (iterate 7 refine At.un rfl rfl rfl rfl ?_); (iterate 2 refine At.v rfl rfl rfl rfl rfl trivial ?_); (iterate 7 refine At.un rfl rfl rfl rfl ?_); refine At.v rfl rfl rfl rfl rfl trivial ?_; refine At.regionEnd ?_; refine At.cond rfl ?_; refine At.seq (At.region ?_); refine At.v rfl rfl rfl rfl rfl trivial ?_; refine At.regionEnd ?_
    exact At.ret Tryz.func78 (.inr ⟨_, rfl⟩) rfl (.tmp rfl .nil) (wk (hc _ _ (⟨by rfl, rfl⟩)))
  have q1 : B.size = C.size := by simpa using h11
  refine At.fa 2 rfl rfl rfl rfl rfl rfl rfl ?_; refine At.ld 1 rfl rfl rfl rfl rfl rfl rfl rfl rfl ?_; refine At.fa 2 rfl rfl rfl rfl rfl rfl rfl ?_; refine At.ld 0 rfl rfl rfl rfl rfl rfl rfl rfl rfl ?_; refine At.qb rfl rfl rfl rfl (q_neqS rfl rfl rfl rfl rfl rfl rfl rfl) fun b17 h17 => ?_; (iterate 2 refine At.v rfl rfl rfl rfl rfl trivial ?_)
  cases b17
  rotate_left
  · have e : ¬ (B.lo = C.lo ∧ B.hi = C.hi) := by
      rintro ⟨h1, h2⟩
      rw [h1, h2] at h17
      simp at h17
    rw [decide_eq_false (fun h => e h.2.1)] at hc
    (iterate 7 refine At.un rfl rfl rfl rfl ?_); (iterate 2 refine At.v rfl rfl rfl rfl rfl trivial ?_); (iterate 7 refine At.un rfl rfl rfl rfl ?_); refine At.v rfl rfl rfl rfl rfl trivial ?_; refine At.regionEnd ?_; refine At.cond rfl ?_; refine At.seq (At.region ?_); refine At.v rfl rfl rfl rfl rfl trivial ?_; refine At.regionEnd ?_
    exact At.ret Tryz.func78 (.inr ⟨_, rfl⟩) rfl (.tmp rfl .nil) (wk (hc _ _ (⟨by rfl, rfl⟩)))
  have q2 : B.lo = C.lo ∧ B.hi = C.hi := by simpa using h17
  refine At.fa 0 rfl rfl rfl rfl rfl rfl rfl ?_; refine At.ld 1 rfl rfl rfl rfl rfl rfl rfl rfl rfl ?_; refine At.ln rfl rfl rfl rfl rfl rfl rfl rfl ?_; refine At.fa 0 rfl rfl rfl rfl rfl rfl rfl ?_; refine At.ld 0 rfl rfl rfl rfl rfl rfl rfl rfl rfl ?_; refine At.ln rfl rfl rfl rfl rfl rfl rfl rfl ?_; refine At.cp rfl rfl rfl rfl rfl fun b26 h26 => ?_; (iterate 2 refine At.v rfl rfl rfl rfl rfl trivial ?_)
  cases b26
  rotate_left
  · have e : B.prof.length ≠ C.prof.length := by simp at h26; omega
    rw [decide_eq_false (fun h => e (by rw [h.2.2.1]))] at hc
    (iterate 7 refine At.un rfl rfl rfl rfl ?_); refine At.v rfl rfl rfl rfl rfl trivial ?_; refine At.regionEnd ?_; refine At.cond rfl ?_; refine At.seq (At.region ?_); refine At.v rfl rfl rfl rfl rfl trivial ?_; refine At.regionEnd ?_
    exact At.ret Tryz.func78 (.inr ⟨_, rfl⟩) rfl (.tmp rfl .nil) (wk (hc _ _ (⟨by rfl, rfl⟩)))
  have q3 : B.prof.length = C.prof.length := by simp at h26; omega
  refine At.fa 4 rfl rfl rfl rfl rfl rfl rfl ?_; refine At.ld 1 rfl rfl rfl rfl rfl rfl rfl rfl rfl ?_; refine At.ln rfl rfl rfl rfl rfl rfl rfl rfl ?_; refine At.fa 4 rfl rfl rfl rfl rfl rfl rfl ?_; refine At.ld 0 rfl rfl rfl rfl rfl rfl rfl rfl rfl ?_; refine At.ln rfl rfl rfl rfl rfl rfl rfl rfl ?_; refine At.cp rfl rfl rfl rfl rfl fun b35 h35 => ?_; refine At.v rfl rfl rfl rfl rfl trivial ?_; refine At.regionEnd ?_
  cases b35
  rotate_left
  · have e : B.marks.length ≠ C.marks.length := by simp at h35; omega
    rw [decide_eq_false (fun h => e (by rw [h.2.2.2]))] at hc
    refine At.cond rfl ?_; refine At.seq (At.region ?_); refine At.v rfl rfl rfl rfl rfl trivial ?_; refine At.regionEnd ?_
    exact At.ret Tryz.func78 (.inr ⟨_, rfl⟩) rfl (.tmp rfl .nil) (wk (hc _ _ (⟨by rfl, rfl⟩)))
  have q4 : B.marks.length = C.marks.length := by simp at h35; omega
  refine At.cond rfl ?_; refine At.skip (At.seq (At.seq (At.region ?_))); refine At.v rfl rfl rfl rfl rfl trivial ?_; refine At.regionEnd ?_; refine At.block ?_
  refine At.lpk (X := { j : Nat // j ≤ B.prof.length ∧ (B.prof.drop j = C.prof.drop j ↔ B.prof = C.prof) }) [2, 3] (fun x => [(5, .int .i64 (x.1 : Int))]) (fun _ => .own r3 (.cells (List.toArray (bkC C D)) 27 (0, 0)) :: .own r2 (.cells (List.toArray (bkC B A)) 27 (0, 0)) :: H) (fun x => B.prof.length - x.1) (⟨0, Nat.zero_le _, Iff.rfl⟩) rfl ?_ (by repeat (first | exact trivial | refine ⟨rfl, ?_⟩)) sb
  rintro ⟨j, hj, hd⟩ again
  simp only at again ⊢
  refine At.seq (At.seq (At.region ?_)); refine At.v rfl rfl rfl rfl rfl trivial ?_; refine At.fa 0 rfl rfl rfl rfl rfl rfl rfl ?_; refine At.ld 1 rfl rfl rfl rfl rfl rfl rfl rfl rfl ?_; refine At.ln rfl rfl rfl rfl rfl rfl rfl rfl ?_; refine At.cp rfl rfl rfl rfl rfl fun b41 h41 => ?_; refine At.regionEnd ?_
  cases b41
  rotate_left
  · have h1 : j < B.prof.length := by simp at h41; omega
    have h2 : j < C.prof.length := by omega
    obtain ⟨pa, pc, ma, mc⟩ := A
    obtain ⟨pa', pc', ma', mc'⟩ := D
    obtain ⟨b, off, e1, c1⟩ := hp1.el (List.getElem?_eq_getElem h1)
    obtain ⟨b', off', e2, c2⟩ := hp2.el (List.getElem?_eq_getElem h2)
    simp only at e1 e2
    subst e1 e2
    rw [ext_drop q3 h1 h2] at hd
    refine At.cond rfl ?_; refine At.skip (At.seq ?_); refine At.block ?_; refine At.seq ?_; refine At.drawJ hmix [] rfl ?_; refine Pool.fa 0 0 rfl rfl rfl rfl rfl rfl rfl rfl rfl ?_; refine Pool.ld 1 1 rfl rfl rfl rfl rfl rfl rfl rfl rfl rfl rfl ?_; refine Pool.v 2 rfl rfl rfl rfl rfl rfl rfl trivial ?_; refine Pool.q 3 rfl rfl rfl rfl rfl (q_ia rfl rfl rfl (by assumption)) rfl ?_; refine Pool.ldc 4 rfl rfl rfl rfl rfl rfl rfl c1.a rfl rfl rfl ?_
    refine Pool.fa 0 5 rfl rfl rfl rfl rfl rfl rfl rfl rfl ?_; refine Pool.ld 0 6 rfl rfl rfl rfl rfl rfl rfl rfl rfl rfl rfl ?_; refine Pool.v 7 rfl rfl rfl rfl rfl rfl rfl trivial ?_; refine Pool.q 8 rfl rfl rfl rfl rfl (q_ia rfl rfl rfl (by assumption)) rfl ?_; refine Pool.ldc 9 rfl rfl rfl rfl rfl rfl rfl c2.a rfl rfl rfl ?_; refine Pool.qb 10 rfl rfl rfl rfl rfl (q_neqS rfl rfl rfl rfl rfl rfl rfl rfl) rfl fun b54 h54 => ?_; refine pool_done rfl rfl ?_; refine At.regionEnd ?_
    cases b54
    · have e : B.prof[j] = C.prof[j] := by
        simp at h54
        exact Prod.ext h54.1 h54.2
      refine At.cond rfl ?_; refine At.skip ?_; refine At.inBlock ?_; refine At.region ?_; refine At.v rfl rfl rfl rfl rfl trivial ?_; refine At.v rfl rfl rfl rfl rfl (by omega) ?_; refine At.v rfl rfl rfl rfl rfl trivial ?_; refine At.regionEnd ?_
      refine At.tA ((again ⟨j + 1, h1, by rw [← hd]; simp [e]⟩ (by simp; omega)))
    · have e : B.prof[j] ≠ C.prof[j] := by
        intro e
        rw [e] at h54
        simp at h54
      rw [decide_eq_false (fun h => e (hd.2 h.2.2.1).1)] at hc
      refine At.cond rfl ?_; refine At.seq (At.region ?_); refine At.v rfl rfl rfl rfl rfl trivial ?_; refine At.regionEnd ?_
      exact At.ret Tryz.func78 (.inr ⟨_, rfl⟩) rfl (.tmp rfl .nil) (wk (hc _ _ (⟨by rfl, rfl⟩)))
  · have e : j = B.prof.length := by simp at h41; omega
    subst e
    have q5 : B.prof = C.prof := by
      rw [← hd, List.drop_length, q3, List.drop_length]
    refine At.cond rfl ?_; refine At.exit rfl ?_; refine At.seq (At.seq (At.region ?_)); refine At.v rfl rfl rfl rfl rfl trivial ?_; refine At.regionEnd ?_; refine At.block ?_
    refine At.lpk (X := { j : Nat // j ≤ B.marks.length ∧ (B.marks.drop j = C.marks.drop j ↔ B.marks = C.marks) }) [2, 3] (fun x => [(6, .int .i64 (x.1 : Int))]) (fun _ => .own r3 (.cells (List.toArray (bkC C D)) 27 (0, 0)) :: .own r2 (.cells (List.toArray (bkC B A)) 27 (0, 0)) :: H) (fun x => B.marks.length - x.1) (⟨0, Nat.zero_le _, Iff.rfl⟩) rfl ?_ (by repeat (first | exact trivial | refine ⟨rfl, ?_⟩)) sb
    rintro ⟨j, hj, hd2⟩ again2
    simp only at again2 ⊢
    refine At.seq (At.seq (At.region ?_)); refine At.v rfl rfl rfl rfl rfl trivial ?_; refine At.fa 4 rfl rfl rfl rfl rfl rfl rfl ?_; refine At.ld 1 rfl rfl rfl rfl rfl rfl rfl rfl rfl ?_; refine At.ln rfl rfl rfl rfl rfl rfl rfl rfl ?_; refine At.cp rfl rfl rfl rfl rfl fun b59 h59 => ?_; refine At.regionEnd ?_
    cases b59
    rotate_left
    · have h1 : j < B.marks.length := by simp at h59; omega
      have h2 : j < C.marks.length := by omega
      obtain ⟨pa, pc, ma, mc⟩ := A
      obtain ⟨pa', pc', ma', mc'⟩ := D
      obtain ⟨b, off, e1, c1⟩ := hm1.el (List.getElem?_eq_getElem h1)
      obtain ⟨b', off', e2, c2⟩ := hm2.el (List.getElem?_eq_getElem h2)
      simp only at e1 e2
      subst e1 e2
      rw [ext_drop q4 h1 h2] at hd2
      refine At.cond rfl ?_; refine At.skip (At.seq ?_); refine At.block ?_; refine At.seq ?_; refine At.drawJ hmix [] rfl ?_; refine Pool.fa 4 0 rfl rfl rfl rfl rfl rfl rfl rfl rfl ?_; refine Pool.ld 1 1 rfl rfl rfl rfl rfl rfl rfl rfl rfl rfl rfl ?_; refine Pool.v 2 rfl rfl rfl rfl rfl rfl rfl trivial ?_; refine Pool.q 3 rfl rfl rfl rfl rfl (q_ia rfl rfl rfl (by assumption)) rfl ?_; refine Pool.ldc 4 rfl rfl rfl rfl rfl rfl rfl c1.a rfl rfl rfl ?_
      refine Pool.fa 4 5 rfl rfl rfl rfl rfl rfl rfl rfl rfl ?_; refine Pool.ld 0 6 rfl rfl rfl rfl rfl rfl rfl rfl rfl rfl rfl ?_; refine Pool.v 7 rfl rfl rfl rfl rfl rfl rfl trivial ?_; refine Pool.q 8 rfl rfl rfl rfl rfl (q_ia rfl rfl rfl (by assumption)) rfl ?_; refine Pool.ldc 9 rfl rfl rfl rfl rfl rfl rfl c2.a rfl rfl rfl ?_; refine Pool.qb 10 rfl rfl rfl rfl rfl (q_neqS rfl rfl rfl rfl rfl rfl rfl rfl) rfl fun b72 h72 => ?_; refine pool_done rfl rfl ?_; refine At.regionEnd ?_
      cases b72
      · have e : B.marks[j] = C.marks[j] := by
          simp at h72
          exact Prod.ext (Prod.ext h72.1 h72.2.1) h72.2.2
        refine At.cond rfl ?_; refine At.skip ?_; refine At.inBlock ?_; refine At.region ?_; refine At.v rfl rfl rfl rfl rfl trivial ?_; refine At.v rfl rfl rfl rfl rfl (by omega) ?_; refine At.v rfl rfl rfl rfl rfl trivial ?_; refine At.regionEnd ?_
        refine At.tA ((again2 ⟨j + 1, h1, by rw [← hd2]; simp [e]⟩ (by simp; omega)))
      · have e : B.marks[j] ≠ C.marks[j] := by
          intro e
          rw [e] at h72
          simp at h72
        rw [decide_eq_false (fun h => e (hd2.2 h.2.2.2).1)] at hc
        refine At.cond rfl ?_; refine At.seq (At.region ?_); refine At.v rfl rfl rfl rfl rfl trivial ?_; refine At.regionEnd ?_
        exact At.ret Tryz.func78 (.inr ⟨_, rfl⟩) rfl (.tmp rfl .nil) (wk (hc _ _ (⟨by rfl, rfl⟩)))
    · have e : j = B.marks.length := by simp at h59; omega
      subst e
      have q6 : B.marks = C.marks := by
        rw [← hd2, List.drop_length, q4, List.drop_length]
      rw [decide_eq_true ⟨q1, q2, q5, q6⟩] at hc
      refine At.cond rfl ?_; refine At.exit rfl ?_; refine At.seq (At.region ?_); refine At.v rfl rfl rfl rfl rfl trivial ?_; refine At.regionEnd ?_
      exact At.ret Tryz.func78 (.inr ⟨_, rfl⟩) rfl (.tmp rfl .nil) (wk (hc _ _ (⟨by rfl, rfl⟩)))
/-! ### the plain law of CanvasReached -/
theorem stood_right (B : Bk) (lo hi e : Int) : rightM (stoodM B lo hi) e = rightM B e := rfl
theorem stood_bar {B : Bk} {lo hi : Int} (hz : bookBar B = 0) (h : 0 ≤ lo ∧ lo ≤ hi ∧ hi ≤ 90 ∧ hi - lo < 3) : bookBar (stoodM B lo hi) = 0 := by
  have hp : profBar B.prof = 0 := by
    unfold bookBar at hz
    split at hz
    · assumption
    · rename_i h1; simpa using h1
  have hm : mksBar B.marks = 0 := by
    unfold bookBar at hz
    rw [if_neg (by simpa using hp)] at hz
    split at hz
    · rename_i h1; exact absurd hz h1
    · exact hz
  have hb := bounds_of_bar hz
  have hs : sizeBar (stoodM B lo hi) = 0 := by
    unfold sizeBar stoodM
    rw [if_neg]
    simp only
    omega
  unfold bookBar
  rw [if_neg (by simpa [stoodM] using hp), if_neg (by simpa using hs)]
  exact hm
theorem known_nil {B : Bk} (hz : bookBar B = 0) : knownBar B [] = if (statesM B).length = 0 then 9 else 0 := by
  unfold knownBar
  rw [lookBar1 hz]
  rfl
theorem stand_eye {B : Bk} (hz : bookBar B = 0) {eye : Int} (he : EyeOk eye) : standBar B (eye, eye) = if eye ∈ statesM B then 0 else 9 := by
  have hb := bounds_of_bar hz
  unfold EyeOk at he
  unfold standBar
  rw [if_neg (by simpa using hz), if_neg (by simp only; omega)]
  simp only
  by_cases hr : B.lo ≤ eye ∧ eye ≤ B.hi
  · have e1 : maxI B.lo eye = eye := by unfold maxI; split <;> omega
    have e2 : minI B.hi eye = eye := by unfold minI; split <;> omega
    rw [e1, e2, if_neg (by omega)]
    have hz' : bookBar (standM B (eye, eye)) = 0 := by
      unfold standM
      simp only
      rw [e1, e2]
      exact stood_bar hz (by omega)
    rw [known_nil hz']
    have em : ∀ e, e ∈ statesM (standM B (eye, eye)) ↔ e = eye ∧ rightM B e = true := by
      intro e
      rw [mem_states]
      unfold standM
      simp only [e1, e2]
      rw [stood_right]
      show (eye ≤ e ∧ e ≤ eye) ∧ _ ↔ _
      constructor
      · rintro ⟨h1, h2⟩; exact ⟨by omega, h2⟩
      · rintro ⟨h1, h2⟩; exact ⟨by omega, h2⟩
    by_cases h1 : rightM B eye = true
    · rw [if_pos (mem_states.2 ⟨hr, h1⟩), if_neg]
      have := List.length_pos_of_mem ((em eye).2 ⟨rfl, h1⟩)
      omega
    · rw [if_neg (fun h => h1 (mem_states.1 h).2), if_pos]
      rw [List.length_eq_zero_iff, List.eq_nil_iff_forall_not_mem]
      intro e he
      have := (em e).1 he
      rw [this.1] at this
      exact h1 this.2
  · have e1 : maxI B.lo eye > minI B.hi eye := by unfold maxI minI; split <;> split <;> omega
    rw [if_pos e1, if_neg (fun h => hr (mem_states.1 h).1)]
theorem marked_right (B : Bk) (m : R2 × Int) (e : Int) : rightM (markedM B m) e = (rightM B e && decide (rowM B e m.1 = m.2)) := by
  unfold rightM markedM
  rw [List.all_append]
  simp [rowM]
  rfl
theorem marked_bar {B : Bk} {m : R2 × Int} (hz : bookBar B = 0) (hm : markBar m = 0) (hl : B.marks.length < 4) : bookBar (markedM B m) = 0 := by
  refine bookBar_marks hz (by rw [List.length_append]; simp; omega) ?_
  intro x hx
  rcases List.mem_append.1 hx with hx | hx
  · exact (bounds_of_bar hz).2.2.2.2.2.2.2.2.2.2 x hx
  · rw [List.mem_singleton] at hx; rw [hx]; exact hm
theorem mark_bar {B : Bk} (hz : bookBar B = 0) {s : R2} {k : Int} (hs : slopeBar s.1 s.2 = 0) (hk : EyeOk k) (hl : B.marks.length < 4) : markBarM B (s, k) = if k ∈ rowsM B s then 0 else 9 := by
  have hmb : markBar (s, k) = 0 := by
    unfold markBar
    simp only
    rw [if_neg (by simpa using hs)]
    exact if_pos hk
  have hz' := marked_bar hz hmb hl
  unfold markBarM
  rw [if_neg (by simpa using hz), known_nil hz']
  have em : ∀ e, e ∈ statesM (markedM B (s, k)) ↔ e ∈ statesM B ∧ rowM B e s = k := by
    intro e
    rw [mem_states, mem_states, marked_right]
    show (B.lo ≤ e ∧ e ≤ B.hi) ∧ _ ↔ _
    simp only [Bool.and_eq_true, decide_eq_true_eq]
    exact and_assoc.symm
  unfold EyeOk at hk
  by_cases h : k ∈ rowsM B s
  · obtain ⟨_, e, he, hr⟩ := (rowsM_mem hz).1 h
    rw [if_pos h, if_neg]
    have := List.length_pos_of_mem ((em e).2 ⟨he, hr⟩)
    omega
  · rw [if_neg h, if_pos]
    rw [List.length_eq_zero_iff, List.eq_nil_iff_forall_not_mem]
    intro e he
    obtain ⟨h1, h2⟩ := (em e).1 he
    exact h ((rowsM_mem hz).2 ⟨by omega, e, h1, h2⟩)
theorem word_all {B : Bk} (hz : bookBar B = 0) {s : R2} (h0 : (statesM B).length ≠ 0) : (wordM (statesM B).length (((rowsOf B s).count (-1) : Nat) : Int) = 1) ↔ (rowsM B s).length = 0 := by
  have hl : (rowsOf B s).length = (statesM B).length := by simp [rowsOf]
  have h1 : (wordM (statesM B).length (((rowsOf B s).count (-1) : Nat) : Int) = 1) ↔ (rowsOf B s).count (-1) = (rowsOf B s).length := by
    unfold wordM
    constructor
    · intro h
      split at h
      · omega
      · split at h <;> cases h
    · intro h
      rw [if_pos (by omega)]
  rw [h1, List.count_eq_length, List.length_eq_zero_iff, List.eq_nil_iff_forall_not_mem]
  constructor
  · intro h x hx
    obtain ⟨h2, e, he, hr⟩ := (rowsM_mem hz).1 hx
    exact h2 ((h x (List.mem_map.2 ⟨e, he, hr⟩)).symm)
  · intro h x hx
    obtain ⟨e, he, rfl⟩ := List.mem_map.1 hx
    by_cases h2 : rowM B e s = -1
    · exact h2.symm
    · exact absurd ((rowsM_mem hz).2 ⟨h2, e, he, rfl⟩) (h _)
end Go.Gx
end

section
set_option linter.unusedSimpArgs false
set_option linter.unusedVariables false
namespace Go.Gx
open Go Go.Conc Go.Proofs

def zB : Bk := ⟨[], 0, 0, 0, []⟩
def zA : BkA := ⟨none, 0, none, 0⟩
theorem zR (H : Facts) : BkR H zB zA := ⟨.inl rfl, .inl rfl⟩
theorem s78z {main : Bool} (L : Lg Tryz.prog main) (H : Facts) : Pure L 78 #[bkZ, bkZ] H (.bool true) := s78 L H (B := zB) (C := zB) (A := zA) (D := zA) (zR H) (zR H) (by decide) (by decide)
set_option maxRecDepth 100000 in
set_option maxHeartbeats 4000000 in
/-- CanvasReached -/
theorem law20 {Post : Value → World → Prop} {W₀ : World} {H Hg : Facts} (hG : Glo H Hg) (hsh : ∀ f ∈ H, f.isOwn = false) {B : Bk} {A : BkA} (hBk : BkR H B A) {h d k n : Int} (hh : 0 ≤ h ∧ h ≤ 255) (hd : 0 ≤ d ∧ d ≤ 255) (hk : 0 ≤ k ∧ k ≤ 255) (hn : -128 ≤ n ∧ n ≤ 127) :
    LawAt (mainLg Tryz.prog Post W₀ [] []) 20 #[bkV B A, .int .u8 h, .int .u8 d, .int .u8 k, .int .i8 n] H (.bool true) := by
  refine LawAt.enter Tryz.func20 rfl (by simp [Tryz.f20]) fun cs hLB => ?_
  obtain ⟨pa, pc, ma, mc⟩ := A
  generalize hL : mainLg Tryz.prog Post W₀ [] [] = L at hLB ⊢
  have stop22 := trivial
  refine At.seq (At.region ?_); refine At.bx rfl rfl rfl rfl rfl rfl rfl fun r5 => ?_; refine At.v rfl rfl rfl rfl rfl trivial ?_; refine At.regionEnd (At.seq (At.seq (At.region ?_))); refine At.ld 0 rfl rfl rfl rfl rfl rfl rfl rfl rfl ?_; refine At.cqb rfl rfl rfl rfl rfl rfl rfl rfl (s39 L _ bs) fun b25 h25 => ?_; (iterate 2 refine At.v rfl rfl rfl rfl rfl trivial ?_)
  cases b25
  · refine At.un rfl rfl rfl rfl ?_
    (iterate 3 refine At.un rfl rfl rfl rfl ?_); refine At.v rfl rfl rfl rfl rfl trivial ?_; refine At.regionEnd ?_; refine At.cond rfl ?_; refine At.seq (At.region ?_)
    subst hL
    refine At.cq rfl rfl rfl rfl rfl rfl rfl rfl (s22 hG.a) ?_; refine At.v rfl rfl rfl rfl rfl trivial ?_; refine At.regionEnd ?_
    exact hLB Tryz.func20 (.inr ⟨_, rfl⟩) rfl (.tmp rfl .nil) (⟨by rfl, rfl⟩)
  refine At.fa 4 rfl rfl rfl rfl rfl rfl rfl ?_; refine At.ld 0 rfl rfl rfl rfl rfl rfl rfl rfl rfl ?_; refine At.ln rfl rfl rfl rfl rfl rfl rfl rfl ?_; refine At.cp rfl rfl rfl rfl rfl fun b31 h31 => ?_; refine At.v rfl rfl rfl rfl rfl trivial ?_; refine At.regionEnd ?_
  cases b31
  rotate_left
  · refine At.cond rfl ?_
    refine At.seq (At.region ?_)
    subst hL
    refine At.cq rfl rfl rfl rfl rfl rfl rfl rfl (s22 hG.a) ?_; refine At.v rfl rfl rfl rfl rfl trivial ?_; refine At.regionEnd ?_
    exact hLB Tryz.func20 (.inr ⟨_, rfl⟩) rfl (.tmp rfl .nil) (⟨by rfl, rfl⟩)
  have hf : fitM B = true := h25
  have hz : bookBar B = 0 := by simp [fitM] at hf; exact hf.2.2
  have hml : B.marks.length < 4 := by simp at h31; omega
  have hg : Cells H 0 0 chkC := hG.g.a hG.sub
  have hb := bounds_of_bar hz
  have hO : Opn H B ⟨pa, pc, ma, mc⟩ := ⟨hg, hBk, by omega, by omega⟩
  have hOS : OpS H H B ⟨pa, pc, ma, mc⟩ := ⟨Sub.refl _, hsh, hO⟩
  have w1 : IntKind.wrap .i64 h = h := wrap_in (by omega)
  have w2 : IntKind.wrap .i64 k = k := wrap_in (by omega)
  have stop67 := trivial
  refine At.cond rfl ?_; refine At.skip (At.seq (At.region ?_)); refine At.v rfl rfl rfl rfl rfl trivial ?_; refine At.q rfl rfl rfl rfl (q_conv rfl rfl rfl) ?_; refine At.v rfl rfl rfl rfl rfl (by omega) ?_; (iterate 2 refine At.v rfl rfl rfl rfl rfl trivial ?_); refine At.cq rfl rfl rfl rfl rfl rfl rfl rfl (s40 L _ bs bs) ?_; refine At.v rfl rfl rfl rfl rfl trivial ?_; refine At.q rfl rfl rfl rfl (q_conv rfl rfl rfl) ?_; refine At.v rfl rfl rfl rfl rfl (by omega) ?_
  refine At.al rfl rfl rfl rfl rfl fun r12 => ?_; refine At.v rfl rfl rfl rfl rfl trivial ?_; refine At.st 0 rfl rfl rfl rfl rfl rfl rfl rfl rfl rfl rfl rfl ?_; refine At.v rfl rfl rfl rfl rfl trivial ?_; refine At.regionEnd (At.seq (At.region ?_)); refine At.ld 1 rfl rfl rfl rfl rfl rfl rfl rfl rfl ?_; refine At.v rfl rfl rfl rfl rfl trivial ?_
  clear stop67
  rw [w1, w2]
  have he : EyeOk (h.tmod 91) := ⟨Int.tmod_nonneg _ hh.1, by have := Int.tmod_lt_of_pos h (show (0 : Int) < 91 by decide); omega⟩
  have hr : EyeOk (k.tmod 91) := ⟨Int.tmod_nonneg _ hk.1, by have := Int.tmod_lt_of_pos k (show (0 : Int) < 91 by decide); omega⟩
  have hs : slopeBar (low (n.tmod 21) (1 + d.tmod 20)).1 (low (n.tmod 21) (1 + d.tmod 20)).2 = 0 :=
    low_slope (tmod_bd n 21 (by omega)) (by have h1 := Int.tmod_nonneg 20 hd.1; have h2 := Int.tmod_lt_of_pos d (show (0 : Int) < 20 by decide); omega)
  generalize h.tmod 91 = eye at he ⊢
  generalize k.tmod 91 = row at hr ⊢
  generalize low (n.tmod 21) (1 + d.tmod 20) = s at hs ⊢
  have he0 : hBar eye = 0 := if_pos he
  have b1 : lookBar B [hBar eye] = 0 := by rw [lookBar1 hz, firstBar1, he0]
  have b2 : (decide (B.lo ≤ eye ∧ eye ≤ B.hi) && rightM B eye) = decide (eye ∈ statesM B) := by
    rw [Bool.eq_iff_iff]
    simp [mem_states]
  have b3 : knownBar B [slopeBar s.1 s.2] = if (statesM B).length = 0 then 9 else 0 := by
    unfold knownBar
    rw [lookBar1 hz, firstBar1, hs]
    rfl
  have q67 := fun H_ (hO_ : Opn H_ B ⟨pa, pc, ma, mc⟩) => s67 L H_ (eye := eye) hO_
  have q79 := fun H_ (hO_ : Opn H_ B ⟨pa, pc, ma, mc⟩) => s79 L H_ (x := (eye, eye)) hO_
  have q51 := fun H_ (hO_ : Opn H_ B ⟨pa, pc, ma, mc⟩) => s51 L H_ hO_
  have q52 := fun H_ (hO_ : OpS H_ H B ⟨pa, pc, ma, mc⟩) => s52 (Post := Post) (W₀ := W₀) (s := s) hO_
  have q65 := fun H_ (hO_ : Opn H_ B ⟨pa, pc, ma, mc⟩) => s65 L H_ (m := (s, row)) hO_
  simp only [hL, b1, b2, b3, hz, stand_eye hz he, mark_bar hz hs hr hml, ne_eq, not_true_eq_false, if_false] at q67 q79 q51 q52 q65
  have hwa := word_all (s := s) hz
  have l1 := rowsM_len hz (s := s)
  have l2 := statesM_len hz
  refine At.cq rfl rfl rfl rfl rfl rfl rfl rfl (q67 _ hO.a) ?_
  have stop79 := trivial
  (iterate 5 refine At.v rfl rfl rfl rfl rfl trivial ?_); refine At.regionEnd (At.seq (At.region ?_)); refine At.ld 1 rfl rfl rfl rfl rfl rfl rfl rfl rfl ?_; (iterate 2 refine At.v rfl rfl rfl rfl rfl trivial ?_); refine At.q rfl rfl rfl rfl (q_build rfl rfl rfl) ?_
  clear stop79
  refine At.cl rfl rfl rfl rfl rfl rfl rfl rfl (q79 _ hO.a) ?_
  rintro _ _ ⟨sf1, ⟨p1, p2⟩, rfl⟩
  refine At.back ?_
  by_cases hst : eye ∈ statesM B
  · simp only [if_pos hst, decide_eq_true hst] at p1 p2 ⊢
    obtain ⟨A', rfl, -⟩ := p2 trivial
    have hne : (statesM B).length ≠ 0 := by have := List.length_pos_of_mem hst; omega
    simp only [if_neg hne, not_true_eq_false, if_false] at q52
    have hwa := hwa hne
    have stop51 := trivial
    (iterate 3 refine At.v rfl rfl rfl rfl rfl trivial ?_); refine At.al rfl rfl rfl rfl rfl fun r16 => ?_; refine At.st 0 rfl rfl rfl rfl rfl rfl rfl rfl rfl rfl rfl rfl ?_; refine At.v rfl rfl rfl rfl rfl trivial ?_; refine At.regionEnd (At.seq (At.seq (At.region ?_))); refine At.v rfl rfl rfl rfl rfl trivial ?_; refine At.cp rfl rfl rfl rfl rfl fun b58 h58 => ?_; refine At.v rfl rfl rfl rfl rfl trivial ?_
    obtain rfl : b58 = false := h58.symm.trans (by kernel_rfl)
    refine At.v rfl rfl rfl rfl rfl trivial ?_; refine At.cp rfl rfl rfl rfl rfl fun b61 h61 => ?_; refine At.v rfl rfl rfl rfl rfl trivial ?_; refine At.qb rfl rfl rfl rfl (q_neqB rfl rfl rfl) fun b63 h63 => ?_; (iterate 2 refine At.v rfl rfl rfl rfl rfl trivial ?_)
    obtain rfl : b61 = true := h61.symm.trans (by kernel_rfl)
    obtain rfl : b63 = false := h63.symm.trans (by kernel_rfl)
    refine At.v rfl rfl rfl rfl rfl trivial ?_; refine At.cp rfl rfl rfl rfl rfl fun b67 h67 => ?_; refine At.v rfl rfl rfl rfl rfl trivial ?_
    obtain rfl : b67 = false := h67.symm.trans (by kernel_rfl)
    (iterate 8 refine At.un rfl rfl rfl rfl ?_); (iterate 2 refine At.v rfl rfl rfl rfl rfl trivial ?_); refine At.regionEnd ?_; refine At.cond rfl ?_; refine At.skip (At.seq (At.region ?_)); refine At.ld 2 rfl rfl rfl rfl rfl rfl rfl rfl rfl ?_
    clear stop51
    refine At.cl rfl rfl rfl rfl rfl rfl rfl rfl (q51 _ hO.a) ?_
    rintro _ _ ⟨sf2, ⟨a2, cap2, rfl, hsl2⟩, rfl⟩
    refine At.back ?_
    obtain ⟨_, r2, _⟩ := hsl2.rd
    have stop52 := trivial
    (iterate 5 refine At.v rfl rfl rfl rfl rfl trivial ?_); refine At.regionEnd (At.seq (At.region ?_)); refine At.ld 2 rfl rfl rfl rfl rfl rfl rfl rfl rfl ?_; refine At.ld 1 rfl rfl rfl rfl rfl rfl rfl rfl rfl ?_
    clear stop52
    refine At.cl rfl rfl rfl rfl rfl rfl rfl rfl (q52 _ hOS.a) ?_
    rintro _ _ ⟨sf3, ⟨a3, cap3, rfl, hsl3⟩, rfl⟩
    refine At.back ?_
    obtain ⟨_, r3, _⟩ := hsl3.rd
    have stop65 := trivial
    (iterate 7 refine At.v rfl rfl rfl rfl rfl trivial ?_); refine At.regionEnd (At.seq (At.region ?_)); refine At.ld 2 rfl rfl rfl rfl rfl rfl rfl rfl rfl ?_; refine At.ld 1 rfl rfl rfl rfl rfl rfl rfl rfl rfl ?_; refine At.v rfl rfl rfl rfl rfl trivial ?_; refine At.q rfl rfl rfl rfl (q_build rfl rfl rfl) ?_
    clear stop65
    refine At.cl rfl rfl rfl rfl rfl rfl rfl rfl (q65 _ hO.a) ?_
    rintro _ _ ⟨sf4, ⟨p3, p4⟩, rfl⟩
    refine At.back ?_
    by_cases hrw : row ∈ rowsM B s
    · simp only [if_pos hrw] at p3 p4
      obtain ⟨A2, rfl, -⟩ := p4 trivial
      have stop48 := trivial
      (iterate 3 refine At.v rfl rfl rfl rfl rfl trivial ?_); refine At.st 0 rfl rfl rfl rfl rfl rfl rfl rfl rfl rfl rfl rfl ?_; refine At.v rfl rfl rfl rfl rfl trivial ?_; refine At.regionEnd (At.seq (At.seq (At.region ?_))); refine At.v rfl rfl rfl rfl rfl trivial ?_; refine At.cp rfl rfl rfl rfl rfl fun b100 h100 => ?_; refine At.v rfl rfl rfl rfl rfl trivial ?_
      obtain rfl : b100 = false := h100.symm.trans (by kernel_rfl)
      (iterate 2 refine At.v rfl rfl rfl rfl rfl trivial ?_); refine At.cq rfl rfl rfl rfl rfl rfl rfl rfl (s48 L _ (xs := statesM B) rfl r2.a (by omega)) ?_
      rw [decide_eq_true hst]
      refine At.v rfl rfl rfl rfl rfl trivial ?_; refine At.qb rfl rfl rfl rfl (q_neqB rfl rfl rfl) fun b106 h106 => ?_; (iterate 2 refine At.v rfl rfl rfl rfl rfl trivial ?_)
      obtain rfl : b106 = false := h106.symm.trans (by kernel_rfl)
      refine At.v rfl rfl rfl rfl rfl trivial ?_; refine At.cp rfl rfl rfl rfl rfl fun b110 h110 => ?_; refine At.v rfl rfl rfl rfl rfl trivial ?_; refine At.ln rfl rfl rfl rfl rfl rfl rfl rfl ?_; refine At.cp rfl rfl rfl rfl rfl fun b113 h113 => ?_; refine At.qb rfl rfl rfl rfl (q_neqB rfl rfl rfl) fun b114 h114 => ?_; (iterate 2 refine At.v rfl rfl rfl rfl rfl trivial ?_)
      obtain rfl : b110 = true := h110.symm.trans (by kernel_rfl)
      obtain rfl : b113 = true := h113.symm.trans (decide_eq_true (by omega))
      obtain rfl : b114 = false := h114.symm.trans (by kernel_rfl)
      refine At.v rfl rfl rfl rfl rfl trivial ?_; refine At.cp rfl rfl rfl rfl rfl fun b118 h118 => ?_; refine At.v rfl rfl rfl rfl rfl trivial ?_
      obtain rfl : b118 = false := h118.symm.trans (by kernel_rfl)
      (iterate 11 refine At.un rfl rfl rfl rfl ?_); (iterate 2 refine At.v rfl rfl rfl rfl rfl trivial ?_); refine At.regionEnd ?_; refine At.cond rfl ?_; refine At.skip (At.seq (At.region ?_)); refine At.v rfl rfl rfl rfl rfl trivial ?_; refine At.cp rfl rfl rfl rfl rfl fun b134 h134 => ?_; (iterate 2 refine At.v rfl rfl rfl rfl rfl trivial ?_); refine At.cq rfl rfl rfl rfl rfl rfl rfl rfl (s48 L _ (xs := rowsM B s) rfl r3.a (by omega)) ?_
      rw [decide_eq_true hrw]
      refine At.qb rfl rfl rfl rfl (q_eqlB rfl rfl rfl) fun b138 h138 => ?_; refine At.v rfl rfl rfl rfl rfl trivial ?_
      obtain rfl : b134 = true := h134.symm.trans (by kernel_rfl)
      obtain rfl : b138 = true := h138.symm.trans (by kernel_rfl)
      refine At.v rfl rfl rfl rfl rfl trivial ?_; refine At.cp rfl rfl rfl rfl rfl fun b141 h141 => ?_; refine At.v rfl rfl rfl rfl rfl trivial ?_
      obtain rfl : b141 = true := h141.symm.trans (by kernel_rfl)
      (iterate 7 refine At.un rfl rfl rfl rfl ?_); (iterate 4 refine At.v rfl rfl rfl rfl rfl trivial ?_); refine At.cp rfl rfl rfl rfl rfl fun b154 h154 => ?_; refine At.v rfl rfl rfl rfl rfl trivial ?_
      obtain rfl : b154 = false := h154.symm.trans (by kernel_rfl)
      refine At.v rfl rfl rfl rfl rfl trivial ?_; refine At.cp rfl rfl rfl rfl rfl fun b157 h157 => ?_; refine At.v rfl rfl rfl rfl rfl trivial ?_; refine At.ln rfl rfl rfl rfl rfl rfl rfl rfl ?_; refine At.cp rfl rfl rfl rfl rfl fun b160 h160 => ?_; refine At.qb rfl rfl rfl rfl (q_eqlB rfl rfl rfl) fun b161 h161 => ?_; (iterate 3 refine At.v rfl rfl rfl rfl rfl trivial ?_)
      obtain rfl : b161 = true := by rw [← h161, ← h157, ← h160]; exact decide_eq_true (decide_eq_decide.2 (hwa.trans (by omega)))
      skip
      subst hL
      refine At.cq rfl rfl rfl rfl rfl rfl rfl rfl (s22 hG.a) ?_; (iterate 2 refine At.v rfl rfl rfl rfl rfl trivial ?_); refine At.regionEnd ?_
      exact hLB Tryz.func20 (.inr ⟨_, rfl⟩) rfl (.tmp rfl .nil) (⟨by rfl, rfl⟩)
    · simp only [if_neg hrw] at p3 p4
      obtain rfl := p3 (by decide)
      have stop48 := trivial
      (iterate 3 refine At.v rfl rfl rfl rfl rfl trivial ?_); refine At.st 0 rfl rfl rfl rfl rfl rfl rfl rfl rfl rfl rfl rfl ?_; refine At.v rfl rfl rfl rfl rfl trivial ?_; refine At.regionEnd (At.seq (At.seq (At.region ?_))); refine At.v rfl rfl rfl rfl rfl trivial ?_; refine At.cp rfl rfl rfl rfl rfl fun b100 h100 => ?_; refine At.v rfl rfl rfl rfl rfl trivial ?_
      obtain rfl : b100 = false := h100.symm.trans (by kernel_rfl)
      (iterate 2 refine At.v rfl rfl rfl rfl rfl trivial ?_); refine At.cq rfl rfl rfl rfl rfl rfl rfl rfl (s48 L _ (xs := statesM B) rfl r2.a (by omega)) ?_
      rw [decide_eq_true hst]
      refine At.v rfl rfl rfl rfl rfl trivial ?_; refine At.qb rfl rfl rfl rfl (q_neqB rfl rfl rfl) fun b106 h106 => ?_; (iterate 2 refine At.v rfl rfl rfl rfl rfl trivial ?_)
      obtain rfl : b106 = false := h106.symm.trans (by kernel_rfl)
      refine At.v rfl rfl rfl rfl rfl trivial ?_; refine At.cp rfl rfl rfl rfl rfl fun b110 h110 => ?_; refine At.v rfl rfl rfl rfl rfl trivial ?_; refine At.ln rfl rfl rfl rfl rfl rfl rfl rfl ?_; refine At.cp rfl rfl rfl rfl rfl fun b113 h113 => ?_; refine At.qb rfl rfl rfl rfl (q_neqB rfl rfl rfl) fun b114 h114 => ?_; (iterate 2 refine At.v rfl rfl rfl rfl rfl trivial ?_)
      obtain rfl : b110 = true := h110.symm.trans (by kernel_rfl)
      obtain rfl : b113 = true := h113.symm.trans (decide_eq_true (by omega))
      obtain rfl : b114 = false := h114.symm.trans (by kernel_rfl)
      refine At.v rfl rfl rfl rfl rfl trivial ?_; refine At.cp rfl rfl rfl rfl rfl fun b118 h118 => ?_; refine At.v rfl rfl rfl rfl rfl trivial ?_
      obtain rfl : b118 = false := h118.symm.trans (by kernel_rfl)
      (iterate 11 refine At.un rfl rfl rfl rfl ?_); (iterate 2 refine At.v rfl rfl rfl rfl rfl trivial ?_); refine At.regionEnd ?_; refine At.cond rfl ?_; refine At.skip (At.seq (At.region ?_)); refine At.v rfl rfl rfl rfl rfl trivial ?_; refine At.cp rfl rfl rfl rfl rfl fun b134 h134 => ?_; (iterate 2 refine At.v rfl rfl rfl rfl rfl trivial ?_); refine At.cq rfl rfl rfl rfl rfl rfl rfl rfl (s48 L _ (xs := rowsM B s) rfl r3.a (by omega)) ?_
      rw [decide_eq_false hrw]
      have stop78 := trivial
      refine At.qb rfl rfl rfl rfl (q_eqlB rfl rfl rfl) fun b138 h138 => ?_; refine At.v rfl rfl rfl rfl rfl trivial ?_
      obtain rfl : b134 = false := h134.symm.trans (by kernel_rfl)
      obtain rfl : b138 = true := h138.symm.trans (by kernel_rfl)
      refine At.v rfl rfl rfl rfl rfl trivial ?_; refine At.cp rfl rfl rfl rfl rfl fun b141 h141 => ?_; refine At.v rfl rfl rfl rfl rfl trivial ?_
      obtain rfl : b141 = false := h141.symm.trans (by kernel_rfl)
      refine At.v rfl rfl rfl rfl rfl trivial ?_; refine At.cp rfl rfl rfl rfl rfl fun b144 h144 => ?_; refine At.v rfl rfl rfl rfl rfl trivial ?_
      obtain rfl : b144 = true := h144.symm.trans (by kernel_rfl)
      refine At.ld 0 rfl rfl rfl rfl rfl rfl rfl rfl rfl ?_; refine At.q rfl rfl rfl rfl (q_build rfl rfl rfl) ?_; refine At.cq rfl rfl rfl rfl rfl rfl rfl rfl (s78z L _) ?_
      clear stop78
      (iterate 5 refine At.v rfl rfl rfl rfl rfl trivial ?_); refine At.cp rfl rfl rfl rfl rfl fun b154 h154 => ?_; refine At.v rfl rfl rfl rfl rfl trivial ?_
      obtain rfl : b154 = false := h154.symm.trans (by kernel_rfl)
      refine At.v rfl rfl rfl rfl rfl trivial ?_; refine At.cp rfl rfl rfl rfl rfl fun b157 h157 => ?_; refine At.v rfl rfl rfl rfl rfl trivial ?_; refine At.ln rfl rfl rfl rfl rfl rfl rfl rfl ?_; refine At.cp rfl rfl rfl rfl rfl fun b160 h160 => ?_; refine At.qb rfl rfl rfl rfl (q_eqlB rfl rfl rfl) fun b161 h161 => ?_; (iterate 3 refine At.v rfl rfl rfl rfl rfl trivial ?_)
      obtain rfl : b161 = true := by rw [← h161, ← h157, ← h160]; exact decide_eq_true (decide_eq_decide.2 (hwa.trans (by omega)))
      skip
      subst hL
      refine At.cq rfl rfl rfl rfl rfl rfl rfl rfl (s22 hG.a) ?_; (iterate 2 refine At.v rfl rfl rfl rfl rfl trivial ?_); refine At.regionEnd ?_
      exact hLB Tryz.func20 (.inr ⟨_, rfl⟩) rfl (.tmp rfl .nil) (⟨by rfl, rfl⟩)
  · simp only [if_neg hst, decide_eq_false hst] at p1 p2 ⊢
    obtain rfl := p1 (by decide)
    have stop78 := trivial
    (iterate 3 refine At.v rfl rfl rfl rfl rfl trivial ?_); refine At.al rfl rfl rfl rfl rfl fun r16 => ?_; refine At.st 0 rfl rfl rfl rfl rfl rfl rfl rfl rfl rfl rfl rfl ?_; refine At.v rfl rfl rfl rfl rfl trivial ?_; refine At.regionEnd (At.seq (At.seq (At.region ?_))); refine At.v rfl rfl rfl rfl rfl trivial ?_; refine At.cp rfl rfl rfl rfl rfl fun b58 h58 => ?_; refine At.v rfl rfl rfl rfl rfl trivial ?_
    obtain rfl : b58 = false := h58.symm.trans (by kernel_rfl)
    refine At.v rfl rfl rfl rfl rfl trivial ?_; refine At.cp rfl rfl rfl rfl rfl fun b61 h61 => ?_; refine At.v rfl rfl rfl rfl rfl trivial ?_; refine At.qb rfl rfl rfl rfl (q_neqB rfl rfl rfl) fun b63 h63 => ?_; (iterate 2 refine At.v rfl rfl rfl rfl rfl trivial ?_)
    obtain rfl : b61 = false := h61.symm.trans (by kernel_rfl)
    obtain rfl : b63 = false := h63.symm.trans (by kernel_rfl)
    refine At.v rfl rfl rfl rfl rfl trivial ?_; refine At.cp rfl rfl rfl rfl rfl fun b67 h67 => ?_; refine At.v rfl rfl rfl rfl rfl trivial ?_
    obtain rfl : b67 = true := h67.symm.trans (by kernel_rfl)
    refine At.v rfl rfl rfl rfl rfl trivial ?_; refine At.cp rfl rfl rfl rfl rfl fun b70 h70 => ?_; refine At.v rfl rfl rfl rfl rfl trivial ?_
    obtain rfl : b70 = false := h70.symm.trans (by kernel_rfl)
    refine At.ld 0 rfl rfl rfl rfl rfl rfl rfl rfl rfl ?_; refine At.q rfl rfl rfl rfl (q_build rfl rfl rfl) ?_; refine At.cq rfl rfl rfl rfl rfl rfl rfl rfl (s78z L _) ?_
    clear stop78
    by_cases hne : (statesM B).length = 0
    · simp only [if_pos hne, show ¬ (9 : Int) = 0 from by decide, not_false_eq_true, if_true] at q52
      have stop51 := trivial
      (iterate 4 refine At.v rfl rfl rfl rfl rfl trivial ?_); refine At.regionEnd ?_; refine At.cond rfl ?_; refine At.skip (At.seq (At.region ?_)); refine At.ld 2 rfl rfl rfl rfl rfl rfl rfl rfl rfl ?_
      clear stop51
      refine At.cl rfl rfl rfl rfl rfl rfl rfl rfl (q51 _ hO.a) ?_
      rintro _ _ ⟨sf2, ⟨a2, cap2, rfl, hsl2⟩, rfl⟩
      refine At.back ?_
      obtain ⟨_, r2, _⟩ := hsl2.rd
      have stop52 := trivial
      (iterate 5 refine At.v rfl rfl rfl rfl rfl trivial ?_); refine At.regionEnd (At.seq (At.region ?_)); refine At.ld 2 rfl rfl rfl rfl rfl rfl rfl rfl rfl ?_; refine At.ld 1 rfl rfl rfl rfl rfl rfl rfl rfl rfl ?_
      clear stop52
      refine At.cl rfl rfl rfl rfl rfl rfl rfl rfl (q52 _ hOS.a) ?_
      rintro _ _ ⟨sf3, ⟨a3, cap3, rfl, hsl3⟩, rfl⟩
      refine At.back ?_
      obtain ⟨_, r3, _⟩ := hsl3.rd
      have stop65 := trivial
      (iterate 7 refine At.v rfl rfl rfl rfl rfl trivial ?_); refine At.regionEnd (At.seq (At.region ?_)); refine At.ld 2 rfl rfl rfl rfl rfl rfl rfl rfl rfl ?_; refine At.ld 1 rfl rfl rfl rfl rfl rfl rfl rfl rfl ?_; refine At.v rfl rfl rfl rfl rfl trivial ?_; refine At.q rfl rfl rfl rfl (q_build rfl rfl rfl) ?_
      clear stop65
      refine At.cl rfl rfl rfl rfl rfl rfl rfl rfl (q65 _ hO.a) ?_
      rintro _ _ ⟨sf4, ⟨p3, p4⟩, rfl⟩
      refine At.back ?_
      have hrw : row ∉ rowsM B s := fun h => by
        obtain ⟨_, e, he, _⟩ := (rowsM_mem hz).1 h
        have := List.length_pos_of_mem he
        omega
      simp only [if_neg hrw] at p3 p4
      obtain rfl := p3 (by decide)
      have stop48 := trivial
      (iterate 3 refine At.v rfl rfl rfl rfl rfl trivial ?_); refine At.st 0 rfl rfl rfl rfl rfl rfl rfl rfl rfl rfl rfl rfl ?_; refine At.v rfl rfl rfl rfl rfl trivial ?_; refine At.regionEnd (At.seq (At.seq (At.region ?_))); refine At.v rfl rfl rfl rfl rfl trivial ?_; refine At.cp rfl rfl rfl rfl rfl fun b100 h100 => ?_; refine At.v rfl rfl rfl rfl rfl trivial ?_
      obtain rfl : b100 = false := h100.symm.trans (by kernel_rfl)
      (iterate 2 refine At.v rfl rfl rfl rfl rfl trivial ?_); refine At.cq rfl rfl rfl rfl rfl rfl rfl rfl (s48 L _ (xs := statesM B) rfl r2.a (by omega)) ?_
      rw [decide_eq_false hst]
      refine At.v rfl rfl rfl rfl rfl trivial ?_; refine At.qb rfl rfl rfl rfl (q_neqB rfl rfl rfl) fun b106 h106 => ?_; (iterate 2 refine At.v rfl rfl rfl rfl rfl trivial ?_)
      obtain rfl : b106 = false := h106.symm.trans (by kernel_rfl)
      refine At.v rfl rfl rfl rfl rfl trivial ?_; refine At.cp rfl rfl rfl rfl rfl fun b110 h110 => ?_; refine At.v rfl rfl rfl rfl rfl trivial ?_; refine At.ln rfl rfl rfl rfl rfl rfl rfl rfl ?_; refine At.cp rfl rfl rfl rfl rfl fun b113 h113 => ?_; refine At.qb rfl rfl rfl rfl (q_neqB rfl rfl rfl) fun b114 h114 => ?_; (iterate 2 refine At.v rfl rfl rfl rfl rfl trivial ?_)
      obtain rfl : b110 = false := h110.symm.trans (by kernel_rfl)
      obtain rfl : b113 = false := h113.symm.trans (decide_eq_false (by omega))
      obtain rfl : b114 = false := h114.symm.trans (by kernel_rfl)
      refine At.v rfl rfl rfl rfl rfl trivial ?_; refine At.cp rfl rfl rfl rfl rfl fun b118 h118 => ?_; refine At.v rfl rfl rfl rfl rfl trivial ?_
      obtain rfl : b118 = true := h118.symm.trans (by kernel_rfl)
      refine At.v rfl rfl rfl rfl rfl trivial ?_; refine At.cp rfl rfl rfl rfl rfl fun b121 h121 => ?_; refine At.v rfl rfl rfl rfl rfl trivial ?_
      obtain rfl : b121 = false := h121.symm.trans (by kernel_rfl)
      refine At.v rfl rfl rfl rfl rfl trivial ?_; refine At.ln rfl rfl rfl rfl rfl rfl rfl rfl ?_; refine At.cp rfl rfl rfl rfl rfl fun b125 h125 => ?_; (iterate 2 refine At.v rfl rfl rfl rfl rfl trivial ?_)
      obtain rfl : b125 = false := h125.symm.trans (by kernel_rfl)
      refine At.v rfl rfl rfl rfl rfl trivial ?_; refine At.cp rfl rfl rfl rfl rfl fun b129 h129 => ?_; (iterate 3 refine At.v rfl rfl rfl rfl rfl trivial ?_); refine At.regionEnd ?_
      obtain rfl : b129 = false := h129.symm.trans (by kernel_rfl)
      refine At.cond rfl ?_; refine At.skip (At.seq (At.region ?_)); refine At.v rfl rfl rfl rfl rfl trivial ?_; refine At.cp rfl rfl rfl rfl rfl fun b134 h134 => ?_; (iterate 2 refine At.v rfl rfl rfl rfl rfl trivial ?_); refine At.cq rfl rfl rfl rfl rfl rfl rfl rfl (s48 L _ (xs := []) rfl r3.a (by decide)) ?_
      rw [show decide (row ∈ ([] : List Int)) = false by simp]
      have stop78 := trivial
      refine At.qb rfl rfl rfl rfl (q_eqlB rfl rfl rfl) fun b138 h138 => ?_; refine At.v rfl rfl rfl rfl rfl trivial ?_
      obtain rfl : b134 = false := h134.symm.trans (by kernel_rfl)
      obtain rfl : b138 = true := h138.symm.trans (by kernel_rfl)
      refine At.v rfl rfl rfl rfl rfl trivial ?_; refine At.cp rfl rfl rfl rfl rfl fun b141 h141 => ?_; refine At.v rfl rfl rfl rfl rfl trivial ?_
      obtain rfl : b141 = false := h141.symm.trans (by kernel_rfl)
      refine At.v rfl rfl rfl rfl rfl trivial ?_; refine At.cp rfl rfl rfl rfl rfl fun b144 h144 => ?_; refine At.v rfl rfl rfl rfl rfl trivial ?_
      obtain rfl : b144 = true := h144.symm.trans (by kernel_rfl)
      refine At.ld 0 rfl rfl rfl rfl rfl rfl rfl rfl rfl ?_; refine At.q rfl rfl rfl rfl (q_build rfl rfl rfl) ?_; refine At.cq rfl rfl rfl rfl rfl rfl rfl rfl (s78z L _) ?_
      clear stop78
      (iterate 5 refine At.v rfl rfl rfl rfl rfl trivial ?_); refine At.cp rfl rfl rfl rfl rfl fun b154 h154 => ?_; refine At.v rfl rfl rfl rfl rfl trivial ?_
      obtain rfl : b154 = true := h154.symm.trans (by kernel_rfl)
      (iterate 6 refine At.un rfl rfl rfl rfl ?_); (iterate 3 refine At.v rfl rfl rfl rfl rfl trivial ?_)
      subst hL
      refine At.cq rfl rfl rfl rfl rfl rfl rfl rfl (s22 hG.a) ?_; (iterate 2 refine At.v rfl rfl rfl rfl rfl trivial ?_); refine At.regionEnd ?_
      exact hLB Tryz.func20 (.inr ⟨_, rfl⟩) rfl (.tmp rfl .nil) (⟨by rfl, rfl⟩)
    · simp only [if_neg hne, not_true_eq_false, if_false] at q52
      have hwa := hwa hne
      have stop51 := trivial
      (iterate 4 refine At.v rfl rfl rfl rfl rfl trivial ?_); refine At.regionEnd ?_; refine At.cond rfl ?_; refine At.skip (At.seq (At.region ?_)); refine At.ld 2 rfl rfl rfl rfl rfl rfl rfl rfl rfl ?_
      clear stop51
      refine At.cl rfl rfl rfl rfl rfl rfl rfl rfl (q51 _ hO.a) ?_
      rintro _ _ ⟨sf2, ⟨a2, cap2, rfl, hsl2⟩, rfl⟩
      refine At.back ?_
      obtain ⟨_, r2, _⟩ := hsl2.rd
      have stop52 := trivial
      (iterate 5 refine At.v rfl rfl rfl rfl rfl trivial ?_); refine At.regionEnd (At.seq (At.region ?_)); refine At.ld 2 rfl rfl rfl rfl rfl rfl rfl rfl rfl ?_; refine At.ld 1 rfl rfl rfl rfl rfl rfl rfl rfl rfl ?_
      clear stop52
      refine At.cl rfl rfl rfl rfl rfl rfl rfl rfl (q52 _ hOS.a) ?_
      rintro _ _ ⟨sf3, ⟨a3, cap3, rfl, hsl3⟩, rfl⟩
      refine At.back ?_
      obtain ⟨_, r3, _⟩ := hsl3.rd
      have stop65 := trivial
      (iterate 7 refine At.v rfl rfl rfl rfl rfl trivial ?_); refine At.regionEnd (At.seq (At.region ?_)); refine At.ld 2 rfl rfl rfl rfl rfl rfl rfl rfl rfl ?_; refine At.ld 1 rfl rfl rfl rfl rfl rfl rfl rfl rfl ?_; refine At.v rfl rfl rfl rfl rfl trivial ?_; refine At.q rfl rfl rfl rfl (q_build rfl rfl rfl) ?_
      clear stop65
      refine At.cl rfl rfl rfl rfl rfl rfl rfl rfl (q65 _ hO.a) ?_
      rintro _ _ ⟨sf4, ⟨p3, p4⟩, rfl⟩
      refine At.back ?_
      by_cases hrw : row ∈ rowsM B s
      · simp only [if_pos hrw] at p3 p4
        obtain ⟨A2, rfl, -⟩ := p4 trivial
        have stop48 := trivial
        (iterate 3 refine At.v rfl rfl rfl rfl rfl trivial ?_); refine At.st 0 rfl rfl rfl rfl rfl rfl rfl rfl rfl rfl rfl rfl ?_; refine At.v rfl rfl rfl rfl rfl trivial ?_; refine At.regionEnd (At.seq (At.seq (At.region ?_))); refine At.v rfl rfl rfl rfl rfl trivial ?_; refine At.cp rfl rfl rfl rfl rfl fun b100 h100 => ?_; refine At.v rfl rfl rfl rfl rfl trivial ?_
        obtain rfl : b100 = false := h100.symm.trans (by kernel_rfl)
        (iterate 2 refine At.v rfl rfl rfl rfl rfl trivial ?_); refine At.cq rfl rfl rfl rfl rfl rfl rfl rfl (s48 L _ (xs := statesM B) rfl r2.a (by omega)) ?_
        rw [decide_eq_false hst]
        refine At.v rfl rfl rfl rfl rfl trivial ?_; refine At.qb rfl rfl rfl rfl (q_neqB rfl rfl rfl) fun b106 h106 => ?_; (iterate 2 refine At.v rfl rfl rfl rfl rfl trivial ?_)
        obtain rfl : b106 = false := h106.symm.trans (by kernel_rfl)
        refine At.v rfl rfl rfl rfl rfl trivial ?_; refine At.cp rfl rfl rfl rfl rfl fun b110 h110 => ?_; refine At.v rfl rfl rfl rfl rfl trivial ?_; refine At.ln rfl rfl rfl rfl rfl rfl rfl rfl ?_; refine At.cp rfl rfl rfl rfl rfl fun b113 h113 => ?_; refine At.qb rfl rfl rfl rfl (q_neqB rfl rfl rfl) fun b114 h114 => ?_; (iterate 2 refine At.v rfl rfl rfl rfl rfl trivial ?_)
        obtain rfl : b110 = true := h110.symm.trans (by kernel_rfl)
        obtain rfl : b113 = true := h113.symm.trans (decide_eq_true (by omega))
        obtain rfl : b114 = false := h114.symm.trans (by kernel_rfl)
        refine At.v rfl rfl rfl rfl rfl trivial ?_; refine At.cp rfl rfl rfl rfl rfl fun b118 h118 => ?_; refine At.v rfl rfl rfl rfl rfl trivial ?_
        obtain rfl : b118 = false := h118.symm.trans (by kernel_rfl)
        (iterate 11 refine At.un rfl rfl rfl rfl ?_); (iterate 2 refine At.v rfl rfl rfl rfl rfl trivial ?_); refine At.regionEnd ?_; refine At.cond rfl ?_; refine At.skip (At.seq (At.region ?_)); refine At.v rfl rfl rfl rfl rfl trivial ?_; refine At.cp rfl rfl rfl rfl rfl fun b134 h134 => ?_; (iterate 2 refine At.v rfl rfl rfl rfl rfl trivial ?_); refine At.cq rfl rfl rfl rfl rfl rfl rfl rfl (s48 L _ (xs := rowsM B s) rfl r3.a (by omega)) ?_
        rw [decide_eq_true hrw]
        refine At.qb rfl rfl rfl rfl (q_eqlB rfl rfl rfl) fun b138 h138 => ?_; refine At.v rfl rfl rfl rfl rfl trivial ?_
        obtain rfl : b134 = true := h134.symm.trans (by kernel_rfl)
        obtain rfl : b138 = true := h138.symm.trans (by kernel_rfl)
        refine At.v rfl rfl rfl rfl rfl trivial ?_; refine At.cp rfl rfl rfl rfl rfl fun b141 h141 => ?_; refine At.v rfl rfl rfl rfl rfl trivial ?_
        obtain rfl : b141 = true := h141.symm.trans (by kernel_rfl)
        (iterate 7 refine At.un rfl rfl rfl rfl ?_); (iterate 4 refine At.v rfl rfl rfl rfl rfl trivial ?_); refine At.cp rfl rfl rfl rfl rfl fun b154 h154 => ?_; refine At.v rfl rfl rfl rfl rfl trivial ?_
        obtain rfl : b154 = false := h154.symm.trans (by kernel_rfl)
        refine At.v rfl rfl rfl rfl rfl trivial ?_; refine At.cp rfl rfl rfl rfl rfl fun b157 h157 => ?_; refine At.v rfl rfl rfl rfl rfl trivial ?_; refine At.ln rfl rfl rfl rfl rfl rfl rfl rfl ?_; refine At.cp rfl rfl rfl rfl rfl fun b160 h160 => ?_; refine At.qb rfl rfl rfl rfl (q_eqlB rfl rfl rfl) fun b161 h161 => ?_; (iterate 3 refine At.v rfl rfl rfl rfl rfl trivial ?_)
        obtain rfl : b161 = true := by rw [← h161, ← h157, ← h160]; exact decide_eq_true (decide_eq_decide.2 (hwa.trans (by omega)))
        skip
        subst hL
        refine At.cq rfl rfl rfl rfl rfl rfl rfl rfl (s22 hG.a) ?_; (iterate 2 refine At.v rfl rfl rfl rfl rfl trivial ?_); refine At.regionEnd ?_
        exact hLB Tryz.func20 (.inr ⟨_, rfl⟩) rfl (.tmp rfl .nil) (⟨by rfl, rfl⟩)
      · simp only [if_neg hrw] at p3 p4
        obtain rfl := p3 (by decide)
        have stop48 := trivial
        (iterate 3 refine At.v rfl rfl rfl rfl rfl trivial ?_); refine At.st 0 rfl rfl rfl rfl rfl rfl rfl rfl rfl rfl rfl rfl ?_; refine At.v rfl rfl rfl rfl rfl trivial ?_; refine At.regionEnd (At.seq (At.seq (At.region ?_))); refine At.v rfl rfl rfl rfl rfl trivial ?_; refine At.cp rfl rfl rfl rfl rfl fun b100 h100 => ?_; refine At.v rfl rfl rfl rfl rfl trivial ?_
        obtain rfl : b100 = false := h100.symm.trans (by kernel_rfl)
        (iterate 2 refine At.v rfl rfl rfl rfl rfl trivial ?_); refine At.cq rfl rfl rfl rfl rfl rfl rfl rfl (s48 L _ (xs := statesM B) rfl r2.a (by omega)) ?_
        rw [decide_eq_false hst]
        refine At.v rfl rfl rfl rfl rfl trivial ?_; refine At.qb rfl rfl rfl rfl (q_neqB rfl rfl rfl) fun b106 h106 => ?_; (iterate 2 refine At.v rfl rfl rfl rfl rfl trivial ?_)
        obtain rfl : b106 = false := h106.symm.trans (by kernel_rfl)
        refine At.v rfl rfl rfl rfl rfl trivial ?_; refine At.cp rfl rfl rfl rfl rfl fun b110 h110 => ?_; refine At.v rfl rfl rfl rfl rfl trivial ?_; refine At.ln rfl rfl rfl rfl rfl rfl rfl rfl ?_; refine At.cp rfl rfl rfl rfl rfl fun b113 h113 => ?_; refine At.qb rfl rfl rfl rfl (q_neqB rfl rfl rfl) fun b114 h114 => ?_; (iterate 2 refine At.v rfl rfl rfl rfl rfl trivial ?_)
        obtain rfl : b110 = true := h110.symm.trans (by kernel_rfl)
        obtain rfl : b113 = true := h113.symm.trans (decide_eq_true (by omega))
        obtain rfl : b114 = false := h114.symm.trans (by kernel_rfl)
        refine At.v rfl rfl rfl rfl rfl trivial ?_; refine At.cp rfl rfl rfl rfl rfl fun b118 h118 => ?_; refine At.v rfl rfl rfl rfl rfl trivial ?_
        obtain rfl : b118 = false := h118.symm.trans (by kernel_rfl)
        (iterate 11 refine At.un rfl rfl rfl rfl ?_); (iterate 2 refine At.v rfl rfl rfl rfl rfl trivial ?_); refine At.regionEnd ?_; refine At.cond rfl ?_; refine At.skip (At.seq (At.region ?_)); refine At.v rfl rfl rfl rfl rfl trivial ?_; refine At.cp rfl rfl rfl rfl rfl fun b134 h134 => ?_; (iterate 2 refine At.v rfl rfl rfl rfl rfl trivial ?_); refine At.cq rfl rfl rfl rfl rfl rfl rfl rfl (s48 L _ (xs := rowsM B s) rfl r3.a (by omega)) ?_
        rw [decide_eq_false hrw]
        have stop78 := trivial
        refine At.qb rfl rfl rfl rfl (q_eqlB rfl rfl rfl) fun b138 h138 => ?_; refine At.v rfl rfl rfl rfl rfl trivial ?_
        obtain rfl : b134 = false := h134.symm.trans (by kernel_rfl)
        obtain rfl : b138 = true := h138.symm.trans (by kernel_rfl)
        refine At.v rfl rfl rfl rfl rfl trivial ?_; refine At.cp rfl rfl rfl rfl rfl fun b141 h141 => ?_; refine At.v rfl rfl rfl rfl rfl trivial ?_
        obtain rfl : b141 = false := h141.symm.trans (by kernel_rfl)
        refine At.v rfl rfl rfl rfl rfl trivial ?_; refine At.cp rfl rfl rfl rfl rfl fun b144 h144 => ?_; refine At.v rfl rfl rfl rfl rfl trivial ?_
        obtain rfl : b144 = true := h144.symm.trans (by kernel_rfl)
        refine At.ld 0 rfl rfl rfl rfl rfl rfl rfl rfl rfl ?_; refine At.q rfl rfl rfl rfl (q_build rfl rfl rfl) ?_; refine At.cq rfl rfl rfl rfl rfl rfl rfl rfl (s78z L _) ?_
        clear stop78
        (iterate 5 refine At.v rfl rfl rfl rfl rfl trivial ?_); refine At.cp rfl rfl rfl rfl rfl fun b154 h154 => ?_; refine At.v rfl rfl rfl rfl rfl trivial ?_
        obtain rfl : b154 = false := h154.symm.trans (by kernel_rfl)
        refine At.v rfl rfl rfl rfl rfl trivial ?_; refine At.cp rfl rfl rfl rfl rfl fun b157 h157 => ?_; refine At.v rfl rfl rfl rfl rfl trivial ?_; refine At.ln rfl rfl rfl rfl rfl rfl rfl rfl ?_; refine At.cp rfl rfl rfl rfl rfl fun b160 h160 => ?_; refine At.qb rfl rfl rfl rfl (q_eqlB rfl rfl rfl) fun b161 h161 => ?_; (iterate 3 refine At.v rfl rfl rfl rfl rfl trivial ?_)
        obtain rfl : b161 = true := by rw [← h161, ← h157, ← h160]; exact decide_eq_true (decide_eq_decide.2 (hwa.trans (by omega)))
        skip
        subst hL
        refine At.cq rfl rfl rfl rfl rfl rfl rfl rfl (s22 hG.a) ?_; (iterate 2 refine At.v rfl rfl rfl rfl rfl trivial ?_); refine At.regionEnd ?_
        exact hLB Tryz.func20 (.inr ⟨_, rfl⟩) rfl (.tmp rfl .nil) (⟨by rfl, rfl⟩)
end Go.Gx
end

section
set_option linter.unusedSimpArgs false
set_option linter.unusedVariables false
namespace Go.Gx
open Go Go.Conc Go.Proofs Go.ChangeShapes Go.RowKit YtokdmiiejfmomaaGreatDoor
set_option maxRecDepth 100000
theorem ip20 : Tryz.prog.inPlace 20 = [] := by kernel_rfl
theorem uf20 : Tryz.prog.unfollowed 20 = true := by kernel_rfl
theorem rc20 : Tryz.prog.recurses 20 = true := by kernel_rfl
theorem vn20 : Tryz.prog.varsNamed 20 = ["velarium/canvas.checks"] := by kernel_rfl
theorem closed20 : joinedFacts Tryz.prog 20 Tryz.f20 Rows.canvasReachedSpec Rows.canvasReachedRow = true := by
  unfold joinedFacts
  rewrite [ip20, uf20, rc20, vn20, enter1, lf1, make1]
  kernel_rfl
theorem fnm20 : Tryz.prog.funcNamed "velarium/velariumlaw02.CanvasReached" = some 20 := by kernel_rfl
theorem inst20 : Tryz.f20.isInstance Tryz.prog Rows.canvasReachedRow.origin Rows.canvasReachedRow.targs := of_decide_eq_true (by kernel_rfl)
theorem wrap20 : Tryz.f20.isWrapper Tryz.prog Rows.canvasReachedRow.wrapper Rows.canvasReachedRow.mainSum := by unfold Func.isWrapper; first | (rw [if_pos (by decide +kernel)]; kernel_rfl) | (rw [if_neg (by decide +kernel)]; exact ⟨rfl, rfl⟩)
theorem goes20 : Tryz.prog.goes 20 = true := by kernel_rfl
theorem wbt20 : Rows.canvasReachedRow.wfByText (OpenSpec.ofChange Rows.canvasReachedSpec) = true := by kernel_rfl
theorem wants20 : (Tryz.f20.params.toList.all fun t => !Tryz.prog.wantsStandIn t) = true := by kernel_rfl
theorem lifted20 (os : Os) (started : os.Started) (H : Type) (enc : TypeId × Value → H) :
    ReturnsInLeavingWide {} Tryz.checked os 20 .any (fun w args => (Rows.canvasReachedSpec.pre enc Tryz.prog Tryz.f20 [] false w args ∧ laidMetH Tryz.prog laid1 w) ∧ sizedMet enc Tryz.prog Tryz.f20 (OpenSpec.ofChange Rows.canvasReachedSpec) false w args) (Rows.canvasReachedSpec.post enc Tryz.prog Tryz.f20 false true false false) := by
  refine law_lift Tryz.func20 (by kernel_rfl) rfl rfl (by kernel_rfl) os started H enc #[.agg #[.slice none 0 0, .int .i64 0, .int .i64 0, .int .i64 0, .slice none 0 0], .int .u8 0, .int .u8 0, .int .u8 0, .int .i8 0]
    (World.shaped_of_RefB (by kernel_rfl) (by kernel_rfl)) (by kernel_rfl) (by kernel_rfl) (by kernel_rfl) ?_
  intro W base args ds ps hval hA
  rw [Tryz.params20] at hval hA
  obtain ⟨v0, vs0, d0, ds0, p0, q0, e0, rfl, rfl, h0, hA⟩ := trodAll_cons hA
  obtain ⟨v1, vs1, d1, ds1, p1, q1, rfl, rfl, rfl, h1, hA⟩ := trodAll_cons hA
  obtain ⟨v2, vs2, d2, ds2, p2, q2, rfl, rfl, rfl, h2, hA⟩ := trodAll_cons hA
  obtain ⟨v3, vs3, d3, ds3, p3, q3, rfl, rfl, rfl, h3, hA⟩ := trodAll_cons hA
  obtain ⟨v4, vs4, d4, ds4, p4, q4, rfl, rfl, rfl, h4, hA⟩ := trodAll_cons hA
  obtain ⟨rfl, rfl, rfl⟩ := trodAll_nil hA
  obtain rfl : args = #[v0, v1, v2, v3, v4] := Array.toList_inj.1 e0
  obtain ⟨B0, A0, Hs0, rfl, hsh0, hb0⟩ := open_book (hval 0 27 _ rfl rfl) h0
  obtain ⟨n1, rfl, rfl, rfl, w1⟩ := open_int Tryz.underlying5 (hval 1 5 _ rfl rfl) h1
  obtain ⟨n2, rfl, rfl, rfl, w2⟩ := open_int Tryz.underlying5 (hval 2 5 _ rfl rfl) h2
  obtain ⟨n3, rfl, rfl, rfl, w3⟩ := open_int Tryz.underlying5 (hval 3 5 _ rfl rfl) h3
  obtain ⟨n4, rfl, rfl, rfl, w4⟩ := open_int Tryz.underlying53 (hval 4 53 _ rfl rfl) h4
  exact ⟨rfl, Hs0, hsh0, fun Post => law20 hsh0.glo hsh0.ro (hb0.a (Sub.append_left _ _)) (wf_u8 w1) (wf_u8 w2) (wf_u8 w3) (wf_i8 w4)⟩
theorem said20 : Rows.CanvasReachedSaid :=
  OpenClaim.holds_of_wide_leaving 20 Tryz.f20 rfl rfl rfl rfl rfl rfl rfl ⟨rfl, rfl, rfl, rfl, rfl⟩ rfl rfl rfl rfl rfl fnm20 Tryz.func20 closed20 inst20 wrap20
    (fun os started H enc _ => lifted20 os started H enc)
theorem card20 : Rows.CanvasReachedCardSaid :=
  ⟨Claim7.tied_new_at .later [.funcs] true (Claim7.new_of_sixth said20 (true, "2aeeda9e0b315eb022070bc88bc80a554dcd329f773ad53586088327a2b29430") false rfl ⟨rfl, rfl⟩ mi1 rfl
    (fun f fn hf hfn => by
      obtain rfl : f = 20 := Option.some.inj (hf.symm.trans fnm20)
      obtain rfl : fn = Tryz.f20 := Option.some.inj (hfn.symm.trans Tryz.func20)
      exact ⟨looks1.symm, wants_of wants20⟩)) wbt20, (fun _ h => by cases h), canvasReached_row_tie, (fun h => by cases h), goes_of fnm20 goes20⟩
end Go.Gx
namespace Go.Proofs.YtokdmiiejfmomaaGreatDoor
/-- THE CARD OF CanvasReached. -/
theorem canvasReached_card : Rows.CanvasReachedCardSaid := Go.Gx.card20
#print axioms canvasReached_card
end Go.Proofs.YtokdmiiejfmomaaGreatDoor
end
