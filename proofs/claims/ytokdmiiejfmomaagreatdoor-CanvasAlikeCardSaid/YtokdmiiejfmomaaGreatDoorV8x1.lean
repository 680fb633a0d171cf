/-
  CanvasAlike returns true for every canvas, height, denominator, number and numerator (any lists that a process can hold), on every schedule, without a race.
-/
import Derived.Test.YtokdmiiejfmomaaGreatDoorW6
import Derived.SevenTiedAt
section
set_option linter.unusedSimpArgs false
set_option linter.unusedVariables false
namespace Go.Gx
open Go Go.Conc Go.Proofs Go.ChangeShapes Go.RowKit YtokdmiiejfmomaaGreatDoor
set_option maxRecDepth 100000
theorem Shr.ro {W : World} {Hs : Facts} (h : Shr W Hs) : ∀ f ∈ ([.seg 0 0 chkC] ++ Hs : Facts), f.isOwn = false := by
  intro f hf
  rcases List.mem_append.1 hf with hf | hf
  · rw [List.mem_singleton] at hf; subst hf; rfl
  · exact (h f hf).1
section
variable {H : Type} {enc : TypeId × Value → H} {W : World} {sp : Nat → Bool} {held : Bool}

end
end Go.Gx
end

section
set_option linter.unusedSimpArgs false
set_option linter.unusedVariables false
namespace Go.Gx
open Go Go.Conc Go.Proofs

instance : BoI Tryz.prog 4 := ⟨by kernel_rfl⟩
theorem low_slope {n d : Int} (h1 : -20 ≤ n ∧ n ≤ 20) (h2 : 1 ≤ d ∧ d ≤ 20) : slopeBar (low n d).1 (low n d).2 = 0 := by
  have key : ∀ a ∈ (List.range 41), ∀ b ∈ (List.range 20), slopeBar (low ((a : Int) - 20) ((b : Int) + 1)).1 (low ((a : Int) - 20) ((b : Int) + 1)).2 = 0 := by decide +kernel
  have := key (n + 20).toNat (by rw [List.mem_range]; omega) (d - 1).toNat (by rw [List.mem_range]; omega)
  rwa [show (((n + 20).toNat : Nat) : Int) - 20 = n by omega, show (((d - 1).toNat : Nat) : Int) + 1 = d by omega] at this
end Go.Gx
end

section
set_option linter.unusedSimpArgs false
set_option linter.unusedVariables false
namespace Go.Gx
open Go Go.Conc Go.Proofs
variable {main : Bool}

/-! ### the reference's piece and point that is met, and that they are the program's -/
theorem low_one (n : Int) : low n 1 = (n, 1) := by
  have := low_mul (e := n) (d := 1) (by decide)
  rwa [Int.mul_one] at this
theorem low_neg {n d : Int} (hd : d ≠ 0) : low (-n) (-d) = low n d := by
  unfold low lowN lowD
  rw [Int.neg_gcd, Int.gcd_neg]
  by_cases h : d < 0
  · rw [if_pos h, if_pos h, if_neg (by omega), if_neg (by omega)]
  · rw [if_neg h, if_neg h, if_pos (by omega), if_pos (by omega), Int.neg_neg, Int.neg_neg]
theorem pairs_ok {ps : List R2} (hp : ∀ p ∈ ps, PtOk p) (hpw : ps.Pairwise (fun p q => p.2 < q.2)) : ∀ x ∈ ps.zip ps.tail, PtOk x.1 ∧ PtOk x.2 ∧ x.1.2 < x.2.2 := by
  rintro ⟨p, q⟩ hx
  refine ⟨hp _ (List.of_mem_zip hx).1, hp _ (List.mem_of_mem_tail (List.of_mem_zip hx).2), ?_⟩
  obtain ⟨i, hi, e⟩ := List.getElem_of_mem hx
  simp only [List.getElem_zip, List.getElem_tail, Prod.mk.injEq] at e
  obtain ⟨rfl, rfl⟩ := e
  simp at hi
  exact List.pairwise_iff_getElem.1 hpw i (i + 1) (by omega) (by omega) (by omega)
end Go.Gx
end

section
set_option linter.unusedSimpArgs false
set_option linter.unusedVariables false
namespace Go.Gx
open Go Go.Conc Go.Proofs
variable {main : Bool}

end Go.Gx
end

section
set_option linter.unusedSimpArgs false
set_option linter.unusedVariables false
namespace Go.Gx
open Go Go.Conc Go.Proofs
variable {main : Bool}

end Go.Gx
end

section
set_option linter.unusedSimpArgs false
set_option linter.unusedVariables false
namespace Go.Gx
open Go Go.Conc Go.Proofs
variable {main : Bool}

end Go.Gx
end

section
set_option linter.unusedSimpArgs false
set_option linter.unusedVariables false
namespace Go.Gx
open Go Go.Conc Go.Proofs
variable {main : Bool}

theorem lessW_irr (a : R2) : lessW a a = false := by simp [lessW]
theorem hid_none {B : Bk} {eye : Int} {p : R2} (h : meetM B.prof eye (low (p.2 - eye) p.1) = none) : hidAt B eye p = false := by
  unfold hidAt toPt
  rw [h]
  simp [lessW]
theorem hid_some {B : Bk} {eye : Int} {p : R2} {x : Spot} (h : meetM B.prof eye (low (p.2 - eye) p.1) = some x) : hidAt B eye p = lessW x.1 (low p.1 1) := by
  unfold hidAt toPt
  rw [h, low_one]
  simp only [Option.getD]
  by_cases hx : x = ((p.1, 1), p.2, 1)
  · subst hx
    simp [lessW_irr]
  · simp [hx]
end Go.Gx
end

section
/-
  LOGIC G: what a call has made is put behind the cells that one knows by their places.
-/
set_option linter.unusedSimpArgs false
set_option linter.unusedVariables false
namespace Go.Gx
open Go Go.Conc
/-- 'Y' is 'sf ++ X' with the own cells that stand first in 'X' ahead of 'sf'. -/
class Back (sf X : Facts) (Y : outParam Facts) : Prop where
  s : Sub Y (sf ++ X)
instance (priority := low) backNil {sf X : Facts} : Back sf X (sf ++ X) := ⟨Sub.refl _⟩
instance backCons {sf X Y : Facts} {r : Nat} {o : Obj} [h : Back sf X Y] : Back sf (.own r o :: X) (.own r o :: Y) :=
  ⟨(Sub.cons _ h.s).trans (Sub.of_perm List.perm_middle.symm)⟩
theorem At.back {P : Program} {main : Bool} {L : Lg P main} {f : FuncId} {ro : Option Nat} {ds : Dz} {cs : List Frame} {n : Nat} {E : Env} {k : List Item} {sf X Y : Facts} [hb : Back sf X Y] (h : At L f ro ds cs n E Y k) : At L f ro ds cs n E (sf ++ X) k :=
  h.weakH hb.s
end Go.Gx
end

section
set_option linter.unusedSimpArgs false
set_option linter.unusedVariables false
namespace Go.Gx
open Go Go.Conc Go.Proofs

end Go.Gx
end

section
set_option linter.unusedSimpArgs false
set_option linter.unusedVariables false
namespace Go.Gx
open Go Go.Conc Go.Proofs
variable {main : Bool}

end Go.Gx
end

section
set_option linter.unusedSimpArgs false
set_option linter.unusedVariables false
namespace Go.Gx
open Go Go.Conc Go.Proofs
variable {main : Bool}

theorem low_cross {n d : Int} (hd : d ≠ 0) : (low n d).1 * d = n * (low n d).2 := by
  unfold low lowN lowD
  have hg : 0 < Int.gcd n d := Int.gcd_pos_of_ne_zero_right n hd
  have h1 : ((Int.gcd n d : Nat) : Int) ∣ n := Int.gcd_dvd_left ..
  have h2 : ((Int.gcd n d : Nat) : Int) ∣ d := Int.gcd_dvd_right ..
  generalize ((Int.gcd n d : Nat) : Int) = g at *
  have hg0 : g ≠ 0 := by rintro rfl; exact hd (Int.zero_dvd.1 h2)
  obtain ⟨a, rfl⟩ := h1
  obtain ⟨b, rfl⟩ := h2
  split
  · rw [← Int.mul_neg, ← Int.mul_neg, Int.mul_tdiv_cancel_left _ hg0, Int.mul_tdiv_cancel_left _ hg0]
    simp only [Int.neg_mul, Int.mul_neg]
    rw [Int.mul_left_comm, Int.mul_assoc]
  · simp only
    rw [Int.mul_tdiv_cancel_left _ hg0, Int.mul_tdiv_cancel_left _ hg0, Int.mul_left_comm, Int.mul_assoc]
end Go.Gx
end

section
set_option linter.unusedSimpArgs false
set_option linter.unusedVariables false
namespace Go.Gx
open Go Go.Conc Go.Proofs

end Go.Gx
end

section
set_option linter.unusedSimpArgs false
set_option linter.unusedVariables false
namespace Go.Gx
open Go Go.Conc Go.Proofs
variable {main : Bool}

end Go.Gx
end

section
set_option linter.unusedSimpArgs false
set_option linter.unusedVariables false
namespace Go.Gx
open Go Go.Conc Go.Proofs
variable {main : Bool}

/-! ### where a line meets the canvas, and in which row -/
theorem low_den_pos {n d : Int} (hd : d ≠ 0) : 1 ≤ (low n d).2 := lowD_pos hd
theorem frac_le {n d a : Int} (hd : d ≠ 0) (h : 0 < d ∧ a * d ≤ n ∨ d < 0 ∧ n ≤ a * d) : a * (low n d).2 ≤ (low n d).1 := by
  have hc := low_cross (n := n) hd
  have hp := low_den_pos (n := n) hd
  generalize (low n d).1 = x at *
  generalize (low n d).2 = y at *
  have hy : 0 ≤ y := by omega
  have e : a * y * d = a * d * y := Int.mul_right_comm ..
  rcases h with ⟨h0, h⟩ | ⟨h0, h⟩
  · have := Int.mul_le_mul_of_nonneg_right h hy
    rw [← hc, ← e] at this
    exact Int.le_of_mul_le_mul_right this h0
  · have := Int.mul_le_mul_of_nonneg_right h hy
    rw [← hc, ← e] at this
    have h3 : a * y * -d ≤ x * -d := by rw [Int.mul_neg, Int.mul_neg]; omega
    exact Int.le_of_mul_le_mul_right h3 (by omega)
theorem le_frac {n d a : Int} (hd : d ≠ 0) (h : 0 < d ∧ n ≤ a * d ∨ d < 0 ∧ a * d ≤ n) : (low n d).1 ≤ a * (low n d).2 := by
  have hc := low_cross (n := n) hd
  have hp := low_den_pos (n := n) hd
  generalize (low n d).1 = x at *
  generalize (low n d).2 = y at *
  have hy : 0 ≤ y := by omega
  have e : a * y * d = a * d * y := Int.mul_right_comm ..
  rcases h with ⟨h0, h⟩ | ⟨h0, h⟩
  · have := Int.mul_le_mul_of_nonneg_right h hy
    rw [← hc, ← e] at this
    exact Int.le_of_mul_le_mul_right this h0
  · have := Int.mul_le_mul_of_nonneg_right h hy
    rw [← hc, ← e] at this
    have h3 : x * -d ≤ a * y * -d := by rw [Int.mul_neg, Int.mul_neg]; omega
    exact Int.le_of_mul_le_mul_right h3 (by omega)
/-- A point of a piece is between its ends. -/
theorem cross_high {p q : R2} {eye : Int} {s : R2} (hpq : p.2 < q.2) : ∀ x ∈ crossM p q eye s, p.2 * x.2.2 ≤ x.2.1 ∧ x.2.1 ≤ q.2 * x.2.2 := by
  intro x hx
  unfold crossM at hx
  rw [if_neg (by rintro rfl; omega)] at hx
  generalize ha : offL p eye s = a at hx
  generalize hb : offL q eye s = b at hx
  split at hx
  · simp only [List.mem_cons, List.not_mem_nil, or_false] at hx
    rcases hx with rfl | rfl <;> simp only <;> omega
  rename_i h0
  split at hx
  · rename_i hc
    rw [List.mem_singleton] at hx
    subst hx
    simp only
    have hd : a - b ≠ 0 := by omega
    have hpos : 0 < q.2 - p.2 := by omega
    have e1 : p.2 * (a - b) + (q.2 - p.2) * a - q.2 * (a - b) = (q.2 - p.2) * b := by
      rw [Int.sub_mul, Int.sub_mul, Int.mul_sub, Int.mul_sub]
      omega
    refine ⟨frac_le hd ?_, le_frac hd ?_⟩
    · rcases hc with hc | hc
      · refine .inr ⟨by omega, ?_⟩
        have := Int.mul_le_mul_of_nonneg_left hc.1 (Int.le_of_lt hpos)
        rw [Int.mul_zero] at this
        omega
      · refine .inl ⟨by omega, ?_⟩
        have := Int.mul_le_mul_of_nonneg_left hc.1 (Int.le_of_lt hpos)
        rw [Int.mul_zero] at this
        omega
    · rcases hc with hc | hc
      · refine .inr ⟨by omega, ?_⟩
        have := Int.mul_le_mul_of_nonneg_left hc.2 (Int.le_of_lt hpos)
        rw [Int.mul_zero] at this
        omega
      · refine .inl ⟨by omega, ?_⟩
        have := Int.mul_le_mul_of_nonneg_left hc.2 (Int.le_of_lt hpos)
        rw [Int.mul_zero] at this
        omega
  · cases hx
theorem meet_mem {ps : List R2} {eye : Int} {s : R2} {x : Spot} (h : meetM ps eye s = some x) : ∃ p q, (p, q) ∈ ps.zip ps.tail ∧ x ∈ crossM p q eye s := by
  have hx : x ∈ piecesM ps eye s := by
    unfold meetM at h
    split at h
    · cases h
    · rename_i y l e
      cases h
      rw [e]
      exact bestM_mem _ _ _
  unfold piecesM at hx
  obtain ⟨⟨p, q⟩, hpq, hx⟩ := List.mem_flatMap.1 hx
  exact ⟨p, q, hpq, hx⟩
theorem foot_le {B : Bk} (hz : bookBar B = 0) : ∀ p ∈ B.prof, footM B ≤ p.2 := by
  have hpw := prof_pw hz
  have h2 := (bounds_of_bar hz).1
  unfold footM
  cases hB : B.prof with
  | nil => simp
  | cons p0 ps =>
    rw [hB] at hpw
    intro p hp
    rcases List.mem_cons.1 hp with rfl | hp
    · exact Int.le_refl _
    · exact Int.le_of_lt ((List.pairwise_cons.1 hpw).1 p hp)
theorem foot_pos {B : Bk} (hz : bookBar B = 0) : 0 ≤ footM B := by
  have h2 := (bounds_of_bar hz).1
  have hp := (bounds_of_bar hz).2.2.1
  unfold footM
  cases hB : B.prof with
  | nil => rw [hB] at h2; simp at h2
  | cons p0 ps =>
    have := hp p0 (by rw [hB]; exact List.mem_cons_self ..)
    unfold PtOk at this
    simp only [List.headD_cons]
    omega
/-- How high a line meets the canvas. -/
theorem meet_high {B : Bk} (hz : bookBar B = 0) {eye : Int} {s : R2} {x : Spot} (h : meetM B.prof eye s = some x) : footM B * x.2.2 ≤ x.2.1 ∧ x.2.1 ≤ 90 * x.2.2 ∧ 1 ≤ x.2.2 ∨ x.2.2 ≤ 0 := by
  obtain ⟨p, q, hpq, hx⟩ := meet_mem h
  obtain ⟨hp, hq, hlt⟩ := pairs_ok (bounds_of_bar hz).2.2.1 (prof_pw hz) _ hpq
  obtain ⟨h1, h2⟩ := cross_high hlt x hx
  simp only at h1 h2
  by_cases h0 : 1 ≤ x.2.2
  · left
    have hf := foot_le hz p (List.of_mem_zip hpq).1
    simp only at hp hq hlt
    unfold PtOk at hp hq
    have a1 := Int.mul_le_mul_of_nonneg_right hf (show 0 ≤ x.2.2 by omega)
    have a2 := Int.mul_le_mul_of_nonneg_right (show q.2 ≤ 90 by omega) (show 0 ≤ x.2.2 by omega)
    omega
  · right; omega
/-- The row of what is met is a row. -/
theorem row_ok {B : Bk} (hz : bookBar B = 0) {eye : Int} {s : R2} (he : EyeOk eye) (hs : SlOk s) : rowM B eye s = -1 ∨ 0 ≤ rowM B eye s ∧ rowM B eye s ≤ 90 := by
  cases hm : meetM B.prof eye s with
  | none => left; exact rowM_none hm
  | some x =>
    right
    rw [rowM_some hm]
    have hok := meetM_ok (bounds_of_bar hz).2.2.1 he hs hm
    have hh := meet_high hz hm
    have hb := bounds_of_bar hz
    have hf := foot_pos hz
    obtain ⟨-, -, -, h2⟩ := hok
    unfold squareM
    simp only
    generalize hsz : B.size = z at *
    have hd : 0 < z * x.2.2 := Int.mul_pos (by omega) (by omega)
    have hn : 0 ≤ x.2.1 - footM B * x.2.2 := by omega
    refine ⟨Int.tdiv_nonneg hn (Int.le_of_lt hd), ?_⟩
    have h3 : x.2.1 - footM B * x.2.2 ≤ 90 * (z * x.2.2) := by
      have a1 : 0 ≤ footM B * x.2.2 := Int.mul_nonneg hf (by omega)
      have a2 : 1 * x.2.2 ≤ z * x.2.2 := Int.mul_le_mul_of_nonneg_right (by omega) (by omega)
      omega
    rw [Int.tdiv_eq_ediv_of_nonneg hn]
    have := Int.ediv_le_ediv hd h3
    rwa [Int.mul_ediv_cancel _ (by omega)] at this
theorem row_isSome {B : Bk} (hz : bookBar B = 0) {eye : Int} {s : R2} (he : EyeOk eye) (hs : SlOk s) : (meetM B.prof eye s).isSome = decide (0 ≤ rowM B eye s) := by
  cases hm : meetM B.prof eye s with
  | none => rw [rowM_none hm]; rfl
  | some x =>
    have := row_ok hz he hs
    have h1 : rowM B eye s ≠ -1 ∨ rowM B eye s = -1 := by omega
    rw [rowM_some hm] at *
    have hok := meetM_ok (bounds_of_bar hz).2.2.1 he hs hm
    have hh := meet_high hz hm
    have hb := bounds_of_bar hz
    obtain ⟨-, -, -, h2⟩ := hok
    have hn : 0 ≤ x.2.1 - footM B * x.2.2 := by omega
    have : 0 ≤ (squareM B x.2).1 := Int.tdiv_nonneg hn (Int.mul_nonneg (by omega) (by omega))
    simp [this]
/-! ### the reference's sorting -/
end Go.Gx
end

section
set_option linter.unusedSimpArgs false
set_option linter.unusedVariables false
namespace Go.Gx
open Go Go.Conc Go.Proofs
variable {main : Bool}

end Go.Gx
end

section
set_option linter.unusedSimpArgs false
set_option linter.unusedVariables false
namespace Go.Gx
open Go Go.Conc Go.Proofs
variable {main : Bool}

end Go.Gx
end

section
set_option linter.unusedSimpArgs false
set_option linter.unusedVariables false
namespace Go.Gx
open Go Go.Conc Go.Proofs
variable {main : Bool}

end Go.Gx
end

section
set_option linter.unusedSimpArgs false
set_option linter.unusedVariables false
namespace Go.Gx
open Go Go.Conc Go.Proofs
variable {main : Bool}

end Go.Gx
end

section
set_option linter.unusedSimpArgs false
set_option linter.unusedVariables false
namespace Go.Gx
open Go Go.Conc Go.Proofs

end Go.Gx
end

section
/-
  LOGIC G: a growing list is shared: nobody writes it any more.
-/
set_option linter.unusedSimpArgs false
set_option linter.unusedVariables false
namespace Go.Gx
open Go Go.Conc
end Go.Gx
end

section
set_option linter.unusedSimpArgs false
set_option linter.unusedVariables false
namespace Go.Gx
open Go Go.Conc Go.Proofs
variable {main : Bool}

/-! ### a book whose marks are right for an eye -/
/-! ### the plain law of CanvasReal -/
end Go.Gx
end

section
set_option linter.unusedSimpArgs false
set_option linter.unusedVariables false
namespace Go.Gx
open Go Go.Conc Go.Proofs

end Go.Gx
end

section
set_option linter.unusedSimpArgs false
set_option linter.unusedVariables false
namespace Go.Gx
open Go Go.Conc Go.Proofs
variable {main : Bool}

/-! ### the plain law of CanvasReached -/
end Go.Gx
end

section
set_option linter.unusedSimpArgs false
set_option linter.unusedVariables false
namespace Go.Gx
open Go Go.Conc Go.Proofs

end Go.Gx
end

section
set_option linter.unusedSimpArgs false
set_option linter.unusedVariables false
namespace Go.Gx
open Go Go.Conc Go.Proofs

/-! ### the plain law of CanvasNeeded -/
end Go.Gx
end

section
set_option linter.unusedSimpArgs false
set_option linter.unusedVariables false
namespace Go.Gx
open Go Go.Conc Go.Proofs

/-! ### marks the other way round -/
end Go.Gx
end

section
set_option linter.unusedSimpArgs false
set_option linter.unusedVariables false
namespace Go.Gx
open Go Go.Conc Go.Proofs

end Go.Gx
end

section
set_option linter.unusedSimpArgs false
set_option linter.unusedVariables false
namespace Go.Gx
open Go Go.Conc Go.Proofs
variable {main : Bool}

/-! ### a book that knows more -/
structure Knows (B C : Bk) : Prop where
  b : bookBar B = 0
  c : bookBar C = 0
  r : ∀ e s, rowM C e s = rowM B e s
  s : ∀ e ∈ statesM C, e ∈ statesM B
  n : (statesM C).length ≠ 0
theorem Knows.n' {B C : Bk} (h : Knows B C) : (statesM B).length ≠ 0 := by
  have h1 : 0 < (statesM C).length := by have := h.n; omega
  have := List.length_pos_of_mem (h.s _ (List.getElem_mem h1))
  omega
end Go.Gx
end

section
set_option linter.unusedSimpArgs false
set_option linter.unusedVariables false
namespace Go.Gx
open Go Go.Conc Go.Proofs

end Go.Gx
end

section
set_option linter.unusedSimpArgs false
set_option linter.unusedVariables false
namespace Go.Gx
open Go Go.Conc Go.Proofs

/-! ### an upright canvas -/
end Go.Gx
end

section
set_option linter.unusedSimpArgs false
set_option linter.unusedVariables false
namespace Go.Gx
open Go Go.Conc Go.Proofs

end Go.Gx
end

section
set_option linter.unusedSimpArgs false
set_option linter.unusedVariables false
namespace Go.Gx
open Go Go.Conc Go.Proofs
variable {main : Bool}

end Go.Gx
end

section
set_option linter.unusedSimpArgs false
set_option linter.unusedVariables false
namespace Go.Gx
open Go Go.Conc Go.Proofs

/-! ### sets of marks, by numbers -/
/-! ### the order of lists -/
/-! ### the least set of marks that clash -/
end Go.Gx
end

section
set_option linter.unusedSimpArgs false
set_option linter.unusedVariables false
namespace Go.Gx
open Go Go.Conc Go.Proofs

end Go.Gx
end

section
set_option linter.unusedSimpArgs false
set_option linter.unusedVariables false
namespace Go.Gx
open Go Go.Conc Go.Proofs

/-! ### how many states are left at most -/
end Go.Gx
end

section
set_option linter.unusedSimpArgs false
set_option linter.unusedVariables false
namespace Go.Gx
open Go Go.Conc Go.Proofs

/-! ### the plain law of CanvasAsked -/
end Go.Gx
end

section
set_option linter.unusedSimpArgs false
set_option linter.unusedVariables false
namespace Go.Gx
open Go Go.Conc Go.Proofs

/-! ### fractions in lowest terms -/
theorem low_eq' {n d n' d' : Int} (hd : 0 < d) (hd' : 0 < d') (h : n * d' = n' * d) : low n d = low n' d' := by
  rw [← low_scale (n := n) (d := d) hd', ← low_scale (n := n') (d := d') hd, h, Int.mul_comm d d']
theorem low_eq {n d n' d' : Int} (hd : d ≠ 0) (hd' : d' ≠ 0) (h : n * d' = n' * d) : low n d = low n' d' := by
  have flip : ∀ n d : Int, d ≠ 0 → ∃ n1 d1 : Int, 0 < d1 ∧ low n d = low n1 d1 ∧ ((n1 = n ∧ d1 = d) ∨ (n1 = -n ∧ d1 = -d)) := by
    intro n d hd
    by_cases h : 0 < d
    · exact ⟨n, d, h, rfl, .inl ⟨rfl, rfl⟩⟩
    · exact ⟨-n, -d, by omega, (low_neg hd).symm, .inr ⟨rfl, rfl⟩⟩
  obtain ⟨n1, d1, h1, e1, c1⟩ := flip n d hd
  obtain ⟨n2, d2, h2, e2, c2⟩ := flip n' d' hd'
  rw [e1, e2]
  refine low_eq' h1 h2 ?_
  rcases c1 with ⟨rfl, rfl⟩ | ⟨rfl, rfl⟩ <;> rcases c2 with ⟨rfl, rfl⟩ | ⟨rfl, rfl⟩ <;> grind
def IsLow (x : R2) : Prop := 1 ≤ x.2 ∧ low x.1 x.2 = x
theorem isLow_low {n d : Int} (hd : d ≠ 0) : IsLow (low n d) := by
  have h1 := low_den_pos (n := n) hd
  exact ⟨h1, low_eq (by omega) hd (low_cross hd)⟩
theorem isLow_one (n : Int) : IsLow (n, 1) := ⟨Int.le_refl _, low_one n⟩
theorem IsLow.inj {x y : R2} (hx : IsLow x) (hy : IsLow y) (h : x.1 * y.2 = y.1 * x.2) : x = y := by
  rw [← hx.2, ← hy.2]
  exact low_eq (by have := hx.1; omega) (by have := hy.1; omega) h
/-! ### a point at which a line meets a piece -/
structure SpotOf (p q : R2) (eye : Int) (s : R2) (x : Spot) : Prop where
  l1 : IsLow x.1
  l2 : IsLow x.2
  line : x.2.1 * s.2 * x.1.2 = (eye * s.2 * x.1.2 + s.1 * x.1.1) * x.2.2
  piece : x.1.1 * ((q.2 - p.2) * x.2.2) = (p.1 * ((q.2 - p.2) * x.2.2) + (q.1 - p.1) * (x.2.1 - p.2 * x.2.2)) * x.1.2
  den1 : x.1.2 ≤ 6000
  den2 : x.2.2 ≤ 6000
theorem spot_alg1 {f1 f2 h1 h2 p1 p2 X Y a s1 s2 eye D : Int} (hD : D ≠ 0) (hf : f1 * D = (p1 * D + X * a) * f2) (hh : h1 * D = (p2 * D + Y * a) * h2) (ha : a = (p2 - eye) * s2 - s1 * p1) (hd : D = s1 * X - Y * s2) :
    h1 * s2 * f2 = (eye * s2 * f2 + s1 * f1) * h2 := by
  refine Int.eq_of_mul_eq_mul_right hD ?_
  have e1 : h1 * s2 * f2 * D = (h1 * D) * s2 * f2 := by grind
  have e2 : (eye * s2 * f2 + s1 * f1) * h2 * D = (eye * s2 * f2 * D + s1 * (f1 * D)) * h2 := by grind
  rw [e1, e2, hf, hh]
  have e3 : (p2 * D + Y * a) * s2 = eye * s2 * D + s1 * (p1 * D + X * a) := by
    have e4 : D * a = a * (s1 * X - Y * s2) := by rw [← hd, Int.mul_comm]
    have e5 : D * a = D * ((p2 - eye) * s2 - s1 * p1) := by rw [← ha]
    grind
  grind
theorem spot_alg2 {f1 f2 h1 h2 p1 p2 X Y a D : Int} (hD : D ≠ 0) (hf : f1 * D = (p1 * D + X * a) * f2) (hh : h1 * D = (p2 * D + Y * a) * h2) :
    f1 * (Y * h2) = (p1 * (Y * h2) + X * (h1 - p2 * h2)) * f2 := by
  refine Int.eq_of_mul_eq_mul_right hD ?_
  have e1 : f1 * (Y * h2) * D = (f1 * D) * (Y * h2) := by grind
  have e2 : (p1 * (Y * h2) + X * (h1 - p2 * h2)) * f2 * D = (p1 * (Y * h2) * D + X * (h1 * D - p2 * h2 * D)) * f2 := by grind
  rw [e1, e2, hf, hh]
  grind
theorem off_bd20 {p : R2} {eye : Int} {s : R2} (hp : PtOk p) (he : EyeOk eye) (hs : -20 ≤ s.1 ∧ s.1 ≤ 20 ∧ 1 ≤ s.2 ∧ s.2 ≤ 20) : (offL p eye s).natAbs ≤ 3000 := by
  unfold PtOk at hp
  unfold EyeOk at he
  have h1 := mul_bd (a := p.2 - eye) (b := s.2) (A := 90) (B := 20) (by omega) (by omega)
  have h2 := mul_bd (a := s.1) (b := p.1) (A := 20) (B := 60) (by omega) (by omega)
  unfold offL
  omega
theorem cross_of {p q : R2} {eye : Int} {s : R2} (hp : PtOk p) (hq : PtOk q) (he : EyeOk eye) (hs : -20 ≤ s.1 ∧ s.1 ≤ 20 ∧ 1 ≤ s.2 ∧ s.2 ≤ 20) (hpq : p.2 < q.2) : ∀ x ∈ crossM p q eye s, SpotOf p q eye s x := by
  intro x hx
  have o1 := off_bd20 hp he hs
  have o2 := off_bd20 hq he hs
  unfold crossM at hx
  rw [if_neg (by rintro rfl; omega)] at hx
  split at hx
  · rename_i h0
    unfold offL at h0
    simp only [List.mem_cons, List.not_mem_nil, or_false] at hx
    rcases hx with rfl | rfl
    · exact ⟨isLow_one _, isLow_one _, by simp only; grind, by simp only; grind, by simp only; omega, by simp only; omega⟩
    · exact ⟨isLow_one _, isLow_one _, by simp only; grind, by simp only; grind, by simp only; omega, by simp only; omega⟩
  · rename_i h0
    split at hx
    · rename_i hc
      rw [List.mem_singleton] at hx
      subst hx
      have hD : offL p eye s - offL q eye s ≠ 0 := by omega
      have k1 := low_cross (n := p.1 * (offL p eye s - offL q eye s) + (q.1 - p.1) * offL p eye s) hD
      have k2 := low_cross (n := p.2 * (offL p eye s - offL q eye s) + (q.2 - p.2) * offL p eye s) hD
      have d1 := lowD_le (n := p.1 * (offL p eye s - offL q eye s) + (q.1 - p.1) * offL p eye s) (d := offL p eye s - offL q eye s)
      have d2 := lowD_le (n := p.2 * (offL p eye s - offL q eye s) + (q.2 - p.2) * offL p eye s) (d := offL p eye s - offL q eye s)
      have ha : offL p eye s = (p.2 - eye) * s.2 - s.1 * p.1 := rfl
      have hd : offL p eye s - offL q eye s = s.1 * (q.1 - p.1) - (q.2 - p.2) * s.2 := by unfold offL; grind
      refine ⟨isLow_low hD, isLow_low hD, spot_alg1 hD k1 k2 ha hd, spot_alg2 hD k1 k2, ?_, ?_⟩
      · show lowD _ _ ≤ _; omega
      · show lowD _ _ ≤ _; omega
    · cases hx
/-! ### the nearest one -/
theorem lessW_ok {x y : Spot} (hx : SpotOk x) (hy : SpotOk y) : lessW x.1 y.1 = decide (x.1.1 * y.1.2 < y.1.1 * x.1.2) := by
  obtain ⟨a1, a2, _, _⟩ := hx
  obtain ⟨b1, b2, _, _⟩ := hy
  have e1 := mul_bd (a := x.1.1) (b := y.1.2) (A := 500000000) (B := 3000000) (by omega) (by omega)
  have e2 := mul_bd (a := y.1.1) (b := x.1.2) (A := 500000000) (B := 3000000) (by omega) (by omega)
  unfold lessW
  rw [wr_in (by omega), wr_in (by omega)]
theorem frac_trans {a b c d e f : Int} (hb : 0 < b) (hd : 0 < d) (hf : 0 < f) (h1 : a * d < c * b) (h2 : c * f < e * d) : a * f < e * b := by
  have k1 := Int.mul_lt_mul_of_pos_right h1 hf
  have k2 := Int.mul_lt_mul_of_pos_right h2 hb
  have e1 : c * b * f = c * f * b := Int.mul_right_comm ..
  have k3 : a * d * f < e * d * b := by omega
  have e2 : a * d * f = a * f * d := Int.mul_right_comm ..
  have e3 : e * d * b = e * b * d := Int.mul_right_comm ..
  rw [e2, e3] at k3
  exact Int.lt_of_mul_lt_mul_right k3 (Int.le_of_lt hd)
theorem bestM_leqP {α : Type} {r : α → α → Bool} {P : α → Prop} (ht : ∀ x y z, P x → P y → P z → r x y = true → r y z = true → r x z = true) : ∀ (l : List α) (one : α), P one → (∀ x ∈ l, P x) → bestM r one l = one ∨ r (bestM r one l) one = true
  | [], one, _, _ => .inl rfl
  | x :: l, one, h1, hl => by
    have hx := hl x (List.mem_cons_self ..)
    have hl' : ∀ x ∈ l, P x := fun z hz => hl z (List.mem_cons_of_mem _ hz)
    have mem : ∀ w, P w → P (bestM r w l) := by
      intro w hw
      rcases List.mem_cons.1 (bestM_mem r w l) with h | h
      · rw [h]; exact hw
      · exact hl' _ h
    have e : bestM r one (x :: l) = bestM r (if r x one = true then x else one) l := rfl
    rw [e]
    by_cases h : r x one = true
    · rw [if_pos h]
      rcases bestM_leqP ht l x hx hl' with h2 | h2
      · rw [h2]; exact .inr h
      · exact .inr (ht _ _ _ (mem x hx) hx h1 h2 h)
    · rw [if_neg h]
      exact bestM_leqP ht l one h1 hl'
theorem bestM_leastP {α : Type} {r : α → α → Bool} {P : α → Prop} (hi : ∀ x, P x → r x x = false) (ht : ∀ x y z, P x → P y → P z → r x y = true → r y z = true → r x z = true) : ∀ (l : List α) (one : α), P one → (∀ x ∈ l, P x) → ∀ y ∈ one :: l, r y (bestM r one l) = false
  | [], one, h1, _, y, hy => by
    obtain rfl : y = one := by simpa using hy
    exact hi _ h1
  | x :: l, one, h1, hl, y, hy => by
    have hx := hl x (List.mem_cons_self ..)
    have hl' : ∀ x ∈ l, P x := fun z hz => hl z (List.mem_cons_of_mem _ hz)
    have e : bestM r one (x :: l) = bestM r (if r x one = true then x else one) l := rfl
    rw [e]
    have mem : ∀ w, P w → P (bestM r w l) := by
      intro w hw
      rcases List.mem_cons.1 (bestM_mem r w l) with h | h
      · rw [h]; exact hw
      · exact hl' _ h
    by_cases h : r x one = true
    · rw [if_pos h]
      have ih := bestM_leastP hi ht l x hx hl'
      rcases List.mem_cons.1 hy with rfl | hy
      · cases h3 : r y (bestM r x l)
        · rfl
        · have := ht _ _ _ hx h1 (mem x hx) h h3
          rw [ih x (List.mem_cons_self ..)] at this
          cases this
      · exact ih y hy
    · rw [if_neg h]
      have ih := bestM_leastP hi ht l one h1 hl'
      rcases List.mem_cons.1 hy with rfl | hy
      · exact ih y (List.mem_cons_self ..)
      · rcases List.mem_cons.1 hy with rfl | hy
        · cases h3 : r y (bestM r one l)
          · rfl
          · have hb := ih one (List.mem_cons_self ..)
            rcases bestM_leqP ht l one h1 hl' with h4 | h4
            · rw [h4] at h3; exact absurd h3 (by simpa using h)
            · rw [ht _ _ _ hx (mem one h1) h1 h3 h4] at h
              exact absurd rfl h
        · exact ih y (List.mem_cons_of_mem _ hy)
theorem pieces_ok {ps : List R2} (hp : ∀ p ∈ ps, PtOk p) {eye : Int} {s : R2} (he : EyeOk eye) (hs : SlOk s) : ∀ y ∈ piecesM ps eye s, SpotOk y := by
  intro y hy
  unfold piecesM at hy
  obtain ⟨⟨p, q⟩, hpq, hy⟩ := List.mem_flatMap.1 hy
  exact crossM_ok (hp _ (List.of_mem_zip hpq).1) (hp _ (List.mem_of_mem_tail (List.of_mem_zip hpq).2)) he hs y hy
theorem meet_some {ps : List R2} (hp : ∀ p ∈ ps, PtOk p) {eye : Int} {s : R2} (he : EyeOk eye) (hs : SlOk s) {x : Spot} (h : meetM ps eye s = some x) :
    x ∈ piecesM ps eye s ∧ ∀ y ∈ piecesM ps eye s, x.1.1 * y.1.2 ≤ y.1.1 * x.1.2 := by
  have hok := pieces_ok hp he hs
  unfold meetM at h
  split at h
  · cases h
  · rename_i z l e
    cases h
    rw [e] at hok ⊢
    have hm := bestM_mem (fun a b : Spot => lessW a.1 b.1) z l
    refine ⟨hm, fun y hy => ?_⟩
    have := bestM_leastP (r := fun a b : Spot => lessW a.1 b.1) (P := SpotOk) (fun x hx => by simp [lessW]) (fun x y z hx hy hz h1 h2 => by
      rw [lessW_ok hx hy, decide_eq_true_eq] at h1
      rw [lessW_ok hy hz, decide_eq_true_eq] at h2
      rw [lessW_ok hx hz, decide_eq_true_eq]
      exact frac_trans (by have := hx.f2; omega) (by have := hy.f2; omega) (by have := hz.f2; omega) h1 h2) l z (hok z (List.mem_cons_self ..)) (fun x hx => hok x (List.mem_cons_of_mem _ hx)) y hy
    rw [lessW_ok (hok y hy) (hok _ hm), decide_eq_false_iff_not] at this
    omega
theorem meet_none {ps : List R2} {eye : Int} {s : R2} : meetM ps eye s = none ↔ piecesM ps eye s = [] := by
  unfold meetM
  split
  · rename_i e; simp [e]
  · rename_i e; simp [e]
/-! ### points of the profile on the line; lines that miss the canvas -/
theorem cross_end1 {p q : R2} {eye : Int} {s : R2} (hpq : p.2 < q.2) (h : offL p eye s = 0) : ((p.1, (1 : Int)), (p.2, (1 : Int))) ∈ crossM p q eye s := by
  unfold crossM
  rw [if_neg (by rintro rfl; omega)]
  by_cases h2 : offL q eye s = 0
  · rw [if_pos ⟨h, h2⟩]; exact List.mem_cons_self ..
  · rw [if_neg (by omega), if_pos (by omega), h]
    rw [show p.1 * (0 - offL q eye s) + (q.1 - p.1) * 0 = p.1 * (0 - offL q eye s) by omega, show p.2 * (0 - offL q eye s) + (q.2 - p.2) * 0 = p.2 * (0 - offL q eye s) by omega, low_mul (by omega), low_mul (by omega)]
    exact List.mem_cons_self ..
theorem cross_end2 {p q : R2} {eye : Int} {s : R2} (hpq : p.2 < q.2) (h : offL q eye s = 0) : ((q.1, (1 : Int)), (q.2, (1 : Int))) ∈ crossM p q eye s := by
  unfold crossM
  rw [if_neg (by rintro rfl; omega)]
  by_cases h2 : offL p eye s = 0
  · rw [if_pos ⟨h2, h⟩]; exact List.mem_cons_of_mem _ (List.mem_cons_self ..)
  · rw [if_neg (by omega), if_pos (by omega), h]
    rw [show p.1 * (offL p eye s - 0) + (q.1 - p.1) * offL p eye s = q.1 * (offL p eye s - 0) by grind, show p.2 * (offL p eye s - 0) + (q.2 - p.2) * offL p eye s = q.2 * (offL p eye s - 0) by grind, low_mul (by omega), low_mul (by omega)]
    exact List.mem_cons_self ..
theorem piece_at {eye : Int} {s : R2} : ∀ (ps : List R2), 2 ≤ ps.length → ps.Pairwise (fun p q => p.2 < q.2) → ∀ p ∈ ps, offL p eye s = 0 → ((p.1, (1 : Int)), (p.2, (1 : Int))) ∈ piecesM ps eye s
  | [], h, _, _, _, _ => by simp at h
  | [_], h, _, _, _, _ => by simp at h
  | a :: b :: r, _, hpw, p, hp, h0 => by
    have hab : a.2 < b.2 := (List.pairwise_cons.1 hpw).1 b (by simp)
    rw [pieces_cons]
    rcases List.mem_cons.1 hp with rfl | hp
    · exact List.mem_append_left _ (cross_end1 hab h0)
    · rcases List.mem_cons.1 hp with rfl | hp
      · exact List.mem_append_left _ (cross_end2 hab h0)
      · refine List.mem_append_right _ (piece_at (b :: r) ?_ (List.pairwise_cons.1 hpw).2 p (List.mem_cons_of_mem _ hp) h0)
        have := List.length_pos_of_mem hp
        simp only [List.length_cons]; omega
end Go.Gx
end

section
set_option linter.unusedSimpArgs false
set_option linter.unusedVariables false
namespace Go.Gx
open Go Go.Conc Go.Proofs

/-- Whether a point, by its fractions, is on a piece. -/
def onM (p q f h : R2) : Bool :=
  if h.1 - p.2 * h.2 < 0 ∨ (q.2 - p.2) * h.2 < h.1 - p.2 * h.2 then false
  else decide (f.1 * ((q.2 - p.2) * h.2) = (p.1 * ((q.2 - p.2) * h.2) + (q.1 - p.1) * (h.1 - p.2 * h.2)) * f.2)
/-! ### the plain law of CanvasExact -/
theorem far_bd {p q : R2} {eye : Int} {s : R2} {x : Spot} (hp : PtOk p) (hq : PtOk q) (hpq : p.2 < q.2) (hx : SpotOf p q eye s x) (hh : p.2 * x.2.2 ≤ x.2.1 ∧ x.2.1 ≤ q.2 * x.2.2) : x.1.2 ≤ x.1.1 ∧ x.1.1 ≤ 60 * x.1.2 := by
  have h2 := hx.l2.1
  have f2 := hx.l1.1
  have hk := hx.piece
  unfold PtOk at hp hq
  generalize x.1.1 = f1 at *
  generalize x.1.2 = f at *
  generalize x.2.1 = h1 at *
  generalize x.2.2 = h at *
  have hA : 0 < (q.2 - p.2) * h := Int.mul_pos (by omega) (by omega)
  obtain ⟨n, hn⟩ : ∃ n, h1 - p.2 * h = n := ⟨_, rfl⟩
  have hn1 : n ≤ (q.2 - p.2) * h := by rw [Int.sub_mul]; omega
  have hn0 : 0 ≤ n := by omega
  rw [hn] at hk
  generalize (q.2 - p.2) * h = A at *
  have k1 : p.1 * A + (q.1 - p.1) * n = p.1 * (A - n) + q.1 * n := by grind
  have a1 := Int.mul_le_mul_of_nonneg_right (show 1 ≤ p.1 by omega) (show 0 ≤ A - n by omega)
  have a2 := Int.mul_le_mul_of_nonneg_right (show 1 ≤ q.1 by omega) hn0
  have a3 := Int.mul_le_mul_of_nonneg_right (show p.1 ≤ 60 by omega) (show 0 ≤ A - n by omega)
  have a4 := Int.mul_le_mul_of_nonneg_right (show q.1 ≤ 60 by omega) hn0
  rw [k1] at hk
  have b1 := Int.mul_le_mul_of_nonneg_right (show A ≤ p.1 * (A - n) + q.1 * n by omega) (show 0 ≤ f by omega)
  have b2 := Int.mul_le_mul_of_nonneg_right (show p.1 * (A - n) + q.1 * n ≤ 60 * A by omega) (show 0 ≤ f by omega)
  rw [← hk] at b1 b2
  have e0 : f * A = A * f := Int.mul_comm ..
  have e : 60 * f * A = 60 * A * f := Int.mul_right_comm ..
  have c1 : f * A ≤ f1 * A := by omega
  have c2 : f1 * A ≤ 60 * f * A := by omega
  exact ⟨Int.le_of_mul_le_mul_right c1 hA, Int.le_of_mul_le_mul_right c2 hA⟩
theorem line_alg {h1 h2 f1 f2 s1 s2 eye : Int} (h : h1 * s2 * f2 = (eye * s2 * f2 + s1 * f1) * h2) : (h1 - eye * h2) * f2 * s2 = f1 * s1 * h2 := by grind
structure Exact (B : Bk) (eye : Int) (s : R2) (x : Spot) : Prop where
  l1 : IsLow x.1
  l2 : IsLow x.2
  l3 : IsLow (squareM B x.2).2
  f1 : 1 ≤ x.1.1 ∧ x.1.1 ≤ 360000
  f2 : x.1.2 ≤ 6000
  h1 : 0 ≤ x.2.1 ∧ x.2.1 ≤ 540000
  h2 : x.2.2 ≤ 6000
  row : 0 ≤ (squareM B x.2).1 ∧ (squareM B x.2).1 ≤ 90
  part : 0 ≤ (squareM B x.2).2.1 ∧ (squareM B x.2).2.1 < (squareM B x.2).2.2
  partD : (squareM B x.2).2.2 ≤ 180000
  line : (x.2.1 - eye * x.2.2) * x.1.2 * s.2 = x.1.1 * s.1 * x.2.2
  on : ∃ i, ∃ h : i + 1 < B.prof.length, onM B.prof[i] B.prof[i + 1] x.1 x.2 = true
  high : (x.2.1 - footM B * x.2.2) * (squareM B x.2).2.2 = ((squareM B x.2).1 * (squareM B x.2).2.2 + (squareM B x.2).2.1) * B.size * x.2.2
theorem exact_of {B : Bk} (hz : bookBar B = 0) {eye : Int} {s : R2} (he : EyeOk eye) (hs : -20 ≤ s.1 ∧ s.1 ≤ 20 ∧ 1 ≤ s.2 ∧ s.2 ≤ 20) {x : Spot} (h : meetM B.prof eye s = some x) : Exact B eye s x := by
  have hb := bounds_of_bar hz
  obtain ⟨p, q, hpq, hx⟩ := meet_mem h
  obtain ⟨hp, hq, hlt⟩ := pairs_ok hb.2.2.1 (prof_pw hz) _ hpq
  simp only at hp hq hlt
  have hc := cross_of hp hq he hs hlt x hx
  have hh := cross_high hlt x hx
  have hf := far_bd hp hq hlt hc hh
  have hsl : SlOk s := by unfold SlOk; omega
  have hrow := row_ok hz he hsl
  have his := row_isSome hz he hsl
  rw [h] at his
  simp only [Option.isSome_some] at his
  have hr0 : 0 ≤ rowM B eye s := by simpa using his.symm
  rw [rowM_some h] at hrow hr0
  obtain ⟨l1, l2, ln, pc, d1, d2⟩ := id hc
  have l11 := l1.1
  have l21 := l2.1
  have hp' := hp
  have hq' := hq
  unfold PtOk at hp' hq'
  have hft := foot_le hz p (List.of_mem_zip hpq).1
  have hf0 := foot_pos hz
  have g1 : 0 ≤ p.2 * x.2.2 := Int.mul_nonneg (by omega) (by omega)
  have g2 := Int.mul_le_mul_of_nonneg_right (show q.2 ≤ 90 by omega) (show 0 ≤ x.2.2 by omega)
  have g3 := Int.mul_le_mul_of_nonneg_right hft (show 0 ≤ x.2.2 by omega)
  have hD : 0 < B.size * x.2.2 := Int.mul_pos (by omega) (by omega)
  have hN : 0 ≤ x.2.1 - footM B * x.2.2 := by omega
  have hDb := mul_bd (a := B.size) (b := x.2.2) (A := 30) (B := 6000) (by omega) (by omega)
  have ht0 := Int.tmod_nonneg (B.size * x.2.2) hN
  have ht1 := Int.tmod_lt_of_pos (x.2.1 - footM B * x.2.2) hD
  have hcr := low_cross (n := (x.2.1 - footM B * x.2.2).tmod (B.size * x.2.2)) (d := B.size * x.2.2) (by omega)
  have hpd := low_den_pos (n := (x.2.1 - footM B * x.2.2).tmod (B.size * x.2.2)) (d := B.size * x.2.2) (by omega)
  have hpl := lowD_le (n := (x.2.1 - footM B * x.2.2).tmod (B.size * x.2.2)) (d := B.size * x.2.2)
  have hdm := Int.mul_tdiv_add_tmod (x.2.1 - footM B * x.2.2) (B.size * x.2.2)
  have eP : (squareM B x.2).2 = low ((x.2.1 - footM B * x.2.2).tmod (B.size * x.2.2)) (B.size * x.2.2) := rfl
  have eR : (squareM B x.2).1 = (x.2.1 - footM B * x.2.2).tdiv (B.size * x.2.2) := rfl
  have eD : (low ((x.2.1 - footM B * x.2.2).tmod (B.size * x.2.2)) (B.size * x.2.2)).2 = lowD ((x.2.1 - footM B * x.2.2).tmod (B.size * x.2.2)) (B.size * x.2.2) := rfl
  refine ⟨l1, l2, by rw [eP]; exact isLow_low (by omega), by omega, d1, by omega, d2, by omega, ?_, ?_, ?_, ?_, ?_⟩
  · rw [eP]
    generalize low ((x.2.1 - footM B * x.2.2).tmod (B.size * x.2.2)) (B.size * x.2.2) = w at *
    generalize (x.2.1 - footM B * x.2.2).tmod (B.size * x.2.2) = m at *
    generalize B.size * x.2.2 = D at *
    constructor
    · have : 0 ≤ w.1 * D := by rw [hcr]; exact Int.mul_nonneg ht0 (by omega)
      exact Int.nonneg_of_mul_nonneg_left this hD
    · have k := Int.mul_lt_mul_of_pos_right ht1 (show 0 < w.2 by omega)
      rw [← hcr, Int.mul_comm D w.2] at k
      exact Int.lt_of_mul_lt_mul_right k (by omega)
  · rw [eP, eD]; omega
  · exact line_alg ln
  · obtain ⟨i, hi, e⟩ := List.getElem_of_mem hpq
    simp only [List.getElem_zip, List.getElem_tail, Prod.mk.injEq] at e
    have hi2 : i + 1 < B.prof.length := by
      simp only [List.length_zip, List.length_tail] at hi; omega
    refine ⟨i, hi2, ?_⟩
    obtain ⟨e1, e2⟩ := e
    rw [e1, e2]
    unfold onM
    rw [if_neg (by rw [Int.sub_mul]; omega), decide_eq_true_eq]
    exact pc
  · rw [eP, eR]
    generalize low ((x.2.1 - footM B * x.2.2).tmod (B.size * x.2.2)) (B.size * x.2.2) = w at *
    generalize (x.2.1 - footM B * x.2.2).tmod (B.size * x.2.2) = m at *
    generalize (x.2.1 - footM B * x.2.2).tdiv (B.size * x.2.2) = r at *
    rw [← hdm]
    grind
end Go.Gx
end

section
set_option linter.unusedSimpArgs false
set_option linter.unusedVariables false
namespace Go.Gx
open Go Go.Conc Go.Proofs

end Go.Gx
end

section
set_option linter.unusedSimpArgs false
set_option linter.unusedVariables false
namespace Go.Gx
open Go Go.Conc Go.Proofs

/-! ### the plain law of CanvasNearest -/
theorem near_line {B : Bk} (hz : bookBar B = 0) {eye : Int} {s : R2} (he : EyeOk eye) (hs : SlOk s) {p : R2} (hp : p ∈ B.prof) (h0 : offL p eye s = 0) :
    ∃ x, meetM B.prof eye s = some x ∧ x.1.1 ≤ p.1 * x.1.2 ∧ SpotOk ((p.1, 1), (p.2, 1)) := by
  have hb := bounds_of_bar hz
  have hm := piece_at (eye := eye) (s := s) B.prof hb.1 (prof_pw hz) p hp h0
  cases h : meetM B.prof eye s with
  | none =>
    rw [meet_none] at h
    rw [h] at hm; cases hm
  | some x =>
    obtain ⟨h1, h2⟩ := meet_some hb.2.2.1 he hs h
    refine ⟨x, rfl, ?_, pieces_ok hb.2.2.1 he hs _ hm⟩
    have := h2 _ hm
    simpa using this
end Go.Gx
end

section
set_option linter.unusedSimpArgs false
set_option linter.unusedVariables false
namespace Go.Gx
open Go Go.Conc Go.Proofs

/-! ### a canvas that is raised, or twice as large -/
theorem low_shift {m D n : Int} (hD : D ≠ 0) : low (m + n * D) D = ((low m D).1 + n * (low m D).2, (low m D).2) := by
  have h1 := low_cross (n := m) hD
  have h2 := low_den_pos (n := m) hD
  have hg : Int.gcd (m + n * D) D = Int.gcd m D := Int.gcd_add_mul_right_left ..
  unfold low lowN lowD
  rw [hg]
  have hg0 : 0 < Int.gcd m D := Int.gcd_pos_of_ne_zero_right m hD
  have d1 : ((Int.gcd m D : Nat) : Int) ∣ m := Int.gcd_dvd_left ..
  have d2 : ((Int.gcd m D : Nat) : Int) ∣ D := Int.gcd_dvd_right ..
  generalize ((Int.gcd m D : Nat) : Int) = g at *
  have hgz : g ≠ 0 := by rintro rfl; exact hD (Int.zero_dvd.1 d2)
  obtain ⟨a, rfl⟩ := d1
  obtain ⟨b, rfl⟩ := d2
  have e1 : g * a + n * (g * b) = g * (a + n * b) := by grind
  rw [e1]
  split
  · rw [← Int.mul_neg, ← Int.mul_neg, ← Int.mul_neg, Int.mul_tdiv_cancel_left _ hgz, Int.mul_tdiv_cancel_left _ hgz, Int.mul_tdiv_cancel_left _ hgz]
    simp only
    refine Prod.ext ?_ rfl
    simp only
    grind
  · rw [Int.mul_tdiv_cancel_left _ hgz, Int.mul_tdiv_cancel_left _ hgz, Int.mul_tdiv_cancel_left _ hgz]
def raiseS (n : Int) (x : Spot) : Spot := (x.1, (x.2.1 + n * x.2.2, x.2.2))
def dblR (x : R2) : R2 := low (2 * x.1) x.2
def dblS (x : Spot) : Spot := (dblR x.1, dblR x.2)
def raiseM (B : Bk) (n : Int) : Bk := { B with prof := B.prof.map fun p => (p.1, p.2 + n), lo := B.lo + n, hi := B.hi + n }
def dblM (B : Bk) : Bk := { prof := B.prof.map fun p => (2 * p.1, 2 * p.2), size := 2 * B.size, lo := 2 * B.lo, hi := 2 * B.lo, marks := [] }
theorem off_raise (p : R2) (n eye : Int) (s : R2) : offL (p.1, p.2 + n) (eye + n) s = offL p eye s := by unfold offL; grind
theorem off_dbl (p : R2) (eye : Int) (s : R2) : offL (2 * p.1, 2 * p.2) (2 * eye) s = 2 * offL p eye s := by unfold offL; grind
theorem cross_raise (p q : R2) (n eye : Int) (s : R2) : crossM (p.1, p.2 + n) (q.1, q.2 + n) (eye + n) s = (crossM p q eye s).map (raiseS n) := by
  unfold crossM
  rw [off_raise, off_raise]
  by_cases e : p = q
  · subst e; simp
  · have e' : ((p.1, p.2 + n) : R2) ≠ (q.1, q.2 + n) := by
      intro h
      simp only [Prod.mk.injEq] at h
      exact e (Prod.ext h.1 (by omega))
    rw [if_neg e, if_neg e']
    split
    · simp [raiseS]
    · split
      · have hD : offL p eye s - offL q eye s ≠ 0 := by omega
        simp only [List.map_cons, List.map_nil, raiseS]
        rw [← low_shift hD]
        congr 3
        grind
      · rfl
theorem dblR_low {m D : Int} (hD : D ≠ 0) : low (2 * m) D = dblR (low m D) := by
  have h1 := low_cross (n := m) hD
  have h2 := low_den_pos (n := m) hD
  unfold dblR
  exact low_eq hD (by omega) (by grind)
theorem dblR_one (n : Int) : dblR (n, 1) = (2 * n, 1) := low_one _
theorem cross_dbl (p q : R2) (eye : Int) (s : R2) : crossM (2 * p.1, 2 * p.2) (2 * q.1, 2 * q.2) (2 * eye) s = (crossM p q eye s).map dblS := by
  unfold crossM
  rw [off_dbl, off_dbl]
  by_cases e : p = q
  · subst e; simp
  · have e' : ((2 * p.1, 2 * p.2) : R2) ≠ (2 * q.1, 2 * q.2) := by
      intro h
      simp only [Prod.mk.injEq] at h
      exact e (Prod.ext (by omega) (by omega))
    rw [if_neg e, if_neg e']
    generalize offL p eye s = a
    generalize offL q eye s = b
    by_cases h1 : a = 0 ∧ b = 0
    · rw [if_pos h1, if_pos (by omega)]
      simp [dblS, dblR_one]
    · rw [if_neg h1, if_neg (by omega)]
      by_cases h2 : a ≤ 0 ∧ 0 ≤ b ∨ 0 ≤ a ∧ b ≤ 0
      · rw [if_pos h2, if_pos (by omega)]
        have hD : a - b ≠ 0 := by omega
        simp only [List.map_cons, List.map_nil, dblS]
        rw [← dblR_low hD, ← dblR_low hD]
        have k : ∀ x y : Int, low (2 * x * (2 * a - 2 * b) + (2 * y - 2 * x) * (2 * a)) (2 * a - 2 * b) = low (2 * (x * (a - b) + (y - x) * a)) (a - b) := by
          intro x y
          refine low_eq (by omega) hD ?_
          grind
        rw [k, k]
      · rw [if_neg h2, if_neg (by omega)]; rfl
theorem pieces_map {f : R2 → R2} {g : Spot → Spot} {eye eye' : Int} {s : R2} (h : ∀ p q, crossM (f p) (f q) eye' s = (crossM p q eye s).map g) : ∀ ps : List R2, piecesM (ps.map f) eye' s = (piecesM ps eye s).map g
  | [] => rfl
  | [_] => rfl
  | a :: b :: r => by
    rw [List.map_cons, List.map_cons, pieces_cons, pieces_cons, List.map_append, h, ← List.map_cons, pieces_map h (b :: r)]
theorem bestM_mapP {α β : Type} (f : α → β) (r : α → α → Bool) (r' : β → β → Bool) (P : α → Prop) (h : ∀ x y, P x → P y → r x y = r' (f x) (f y)) : ∀ (one : α) (l : List α), P one → (∀ x ∈ l, P x) → f (bestM r one l) = bestM r' (f one) (l.map f)
  | one, [], _, _ => rfl
  | one, x :: l, h1, hl => by
    have hx := hl x (List.mem_cons_self ..)
    show f (bestM r (if r x one then x else one) l) = bestM r' (if r' (f x) (f one) then f x else f one) (l.map f)
    rw [bestM_mapP f r r' P h _ _ (by split <;> assumption) (fun y hy => hl y (List.mem_cons_of_mem _ hy)), ← h x one hx h1]
    congr 1
    split <;> rfl
theorem meet_map {f : R2 → R2} {g : Spot → Spot} {eye eye' : Int} {s : R2} {ps : List R2} (h : ∀ p q, crossM (f p) (f q) eye' s = (crossM p q eye s).map g) (hp : ∀ p ∈ ps, PtOk p) (he : EyeOk eye) (hs : SlOk s)
    (hg : ∀ x y, SpotOk x → x ∈ piecesM ps eye s → SpotOk y → y ∈ piecesM ps eye s → lessW (g x).1 (g y).1 = lessW x.1 y.1) : meetM (ps.map f) eye' s = (meetM ps eye s).map g := by
  have hok := pieces_ok hp he hs
  unfold meetM
  rw [pieces_map h]
  cases e : piecesM ps eye s with
  | nil => rfl
  | cons x l =>
    rw [e] at hok hg
    simp only [List.map_cons, Option.map_some]
    congr 1
    symm
    exact bestM_mapP g (fun a b => lessW a.1 b.1) (fun a b => lessW a.1 b.1) (fun y => SpotOk y ∧ y ∈ x :: l) (fun a b ha hb => (hg a b ha.1 ha.2 hb.1 hb.2).symm) x l ⟨hok x (List.mem_cons_self ..), List.mem_cons_self ..⟩ (fun y hy => ⟨hok y (List.mem_cons_of_mem _ hy), List.mem_cons_of_mem _ hy⟩)
theorem meet_raise {B : Bk} (hz : bookBar B = 0) {n eye : Int} {s : R2} (he : EyeOk eye) (hs : SlOk s) : meetM (raiseM B n).prof (eye + n) s = (meetM B.prof eye s).map (raiseS n) :=
  meet_map (f := fun p => (p.1, p.2 + n)) (fun p q => cross_raise p q n eye s) (bounds_of_bar hz).2.2.1 he hs (fun _ _ _ _ _ _ => rfl)
theorem frac_lt2 {a b c d u1 v1 u2 v2 : Int} (hb : 0 < b) (hd : 0 < d) (hv1 : 0 < v1) (hv2 : 0 < v2) (h1 : u1 * b = 2 * a * v1) (h2 : u2 * d = 2 * c * v2) : u1 * v2 < u2 * v1 ↔ a * d < c * b := by
  have e1 : u1 * v2 * (b * d) = a * d * (2 * (v1 * v2)) := by grind
  have e2 : u2 * v1 * (b * d) = c * b * (2 * (v1 * v2)) := by grind
  have p1 : 0 < b * d := Int.mul_pos hb hd
  have p2 : 0 < 2 * (v1 * v2) := by have := Int.mul_pos hv1 hv2; omega
  constructor
  · intro h
    have := Int.mul_lt_mul_of_pos_right h p1
    rw [e1, e2] at this
    exact Int.lt_of_mul_lt_mul_right this (Int.le_of_lt p2)
  · intro h
    have := Int.mul_lt_mul_of_pos_right h p2
    rw [← e1, ← e2] at this
    exact Int.lt_of_mul_lt_mul_right this (Int.le_of_lt p1)
theorem dbl_less {x y : Spot} (hx : SpotOk x) (hy : SpotOk y) (hx' : SpotOk (dblS x)) (hy' : SpotOk (dblS y)) : lessW (dblS x).1 (dblS y).1 = lessW x.1 y.1 := by
  rw [lessW_ok hx hy, lessW_ok hx' hy', decide_eq_decide]
  have a1 := hx.f2
  have a2 := hy.f2
  have a3 := hx'.f2
  have a4 := hy'.f2
  exact frac_lt2 (by omega) (by omega) (by omega) (by omega) (low_cross (by omega)) (low_cross (by omega))
theorem meet_dbl {B : Bk} (hz : bookBar B = 0) (hz' : bookBar (dblM B) = 0) {eye : Int} {s : R2} (he : EyeOk eye) (he' : EyeOk (2 * eye)) (hs : SlOk s) : meetM (dblM B).prof (2 * eye) s = (meetM B.prof eye s).map dblS := by
  refine meet_map (f := fun p => (2 * p.1, 2 * p.2)) (fun p q => cross_dbl p q eye s) (bounds_of_bar hz).2.2.1 he hs fun x y hx hxm hy hym => ?_
  have hok := pieces_ok (bounds_of_bar hz').2.2.1 he' hs
  have e : piecesM (dblM B).prof (2 * eye) s = (piecesM B.prof eye s).map dblS := pieces_map (f := fun p => (2 * p.1, 2 * p.2)) (fun p q => cross_dbl p q eye s) B.prof
  rw [e] at hok
  exact dbl_less hx hy (hok _ (List.mem_map_of_mem hxm)) (hok _ (List.mem_map_of_mem hym))
theorem foot_raise {B : Bk} (hz : bookBar B = 0) (n : Int) : footM (raiseM B n) = footM B + n := by
  have h2 := (bounds_of_bar hz).1
  unfold footM raiseM
  cases hB : B.prof with
  | nil => rw [hB] at h2; simp at h2
  | cons p ps => rfl
theorem foot_dbl {B : Bk} (hz : bookBar B = 0) : footM (dblM B) = 2 * footM B := by
  have h2 := (bounds_of_bar hz).1
  unfold footM dblM
  cases hB : B.prof with
  | nil => rw [hB] at h2; simp at h2
  | cons p ps => rfl
theorem square_raise {B : Bk} (hz : bookBar B = 0) (n : Int) (h : R2) : squareM (raiseM B n) (h.1 + n * h.2, h.2) = squareM B h := by
  unfold squareM
  rw [foot_raise hz]
  simp only
  have e : h.1 + n * h.2 - (footM B + n) * h.2 = h.1 - footM B * h.2 := by grind
  rw [e]
  rfl
theorem square_dbl {B : Bk} (hz : bookBar B = 0) {h : R2} (hh : 1 ≤ h.2) (hn : 0 ≤ h.1 - footM B * h.2) : squareM (dblM B) (dblR h) = squareM B h := by
  have hsz := (bounds_of_bar hz).2.2.2.1
  have hv := low_den_pos (n := 2 * h.1) (d := h.2) (by omega)
  have hc := low_cross (n := 2 * h.1) (d := h.2) (by omega)
  unfold squareM
  rw [foot_dbl hz]
  show (((dblR h).1 - 2 * footM B * (dblR h).2).tdiv (2 * B.size * (dblR h).2), low (((dblR h).1 - 2 * footM B * (dblR h).2).tmod (2 * B.size * (dblR h).2)) (2 * B.size * (dblR h).2)) = _
  have eu : dblR h = low (2 * h.1) h.2 := rfl
  rw [← eu] at hv hc
  generalize (dblR h).1 = u at *
  generalize (dblR h).2 = v at *
  generalize h.1 = h1 at *
  generalize h.2 = h2 at *
  generalize footM B = f at *
  generalize B.size = z at *
  have eN : (u - 2 * f * v) * h2 = (h1 - f * h2) * (2 * v) := by grind
  have eD : (2 * z * v) * h2 = (z * h2) * (2 * v) := by grind
  have hD : 0 < z * h2 := Int.mul_pos (by omega) (by omega)
  have hD' : 0 < 2 * z * v := Int.mul_pos (by omega) (by omega)
  generalize h1 - f * h2 = N at *
  generalize u - 2 * f * v = N' at *
  generalize z * h2 = D at *
  generalize 2 * z * v = D' at *
  have eq : N'.tdiv D' = N.tdiv D := by
    rw [← Int.mul_tdiv_mul_of_pos_left N' D' (show 0 < h2 by omega), eN, eD, Int.mul_tdiv_mul_of_pos_left _ _ (by omega)]
  rw [eq]
  refine Prod.ext rfl ?_
  simp only
  have m1 := Int.mul_tdiv_add_tmod N D
  have m2 := Int.mul_tdiv_add_tmod N' D'
  rw [eq] at m2
  have eC : N' * D = N * D' := by
    have : N' * D * h2 = N * D' * h2 := by grind
    exact Int.eq_of_mul_eq_mul_right (by omega) this
  refine low_eq (by omega) (by omega) ?_
  generalize N.tdiv D = k at *
  generalize N.tmod D = t at *
  generalize N'.tmod D' = t' at *
  grind
theorem row_raise {B : Bk} (hz : bookBar B = 0) {n eye : Int} {s : R2} (he : EyeOk eye) (hs : SlOk s) : rowM (raiseM B n) (eye + n) s = rowM B eye s := by
  unfold rowM
  rw [meet_raise hz he hs]
  cases meetM B.prof eye s with
  | none => rfl
  | some x => exact congrArg Prod.fst (square_raise hz n x.2)
theorem hid_raise {B : Bk} (hz : bookBar B = 0) {n eye : Int} (he : EyeOk eye) {p : R2} (hp : PtOk p) : hidAt (raiseM B n) (eye + n) (p.1, p.2 + n) = hidAt B eye p := by
  have hsl := low_pt hp he
  have e : p.2 + n - (eye + n) = p.2 - eye := by omega
  have hm := meet_raise (n := n) hz he hsl
  cases h : meetM B.prof eye (low (p.2 - eye) p.1) with
  | none =>
    rw [h] at hm
    rw [hid_none h, hid_none (by simp only; rw [e]; exact hm)]
  | some x =>
    rw [h] at hm
    rw [hid_some h, hid_some (by simp only; rw [e]; exact hm)]
    rfl
theorem hidden_raise {B : Bk} (hz : bookBar B = 0) {n eye : Int} (he : EyeOk eye) : ∀ k, k ≤ B.prof.length → hiddenTo (raiseM B n) (eye + n) k = hiddenTo B eye k
  | 0, _ => rfl
  | k + 1, hk => by
    unfold hiddenTo
    rw [hidden_raise hz he k (by omega)]
    have e : (raiseM B n).prof.getD k (0, 0) = ((B.prof.getD k (0, 0)).1, (B.prof.getD k (0, 0)).2 + n) := by
      rw [List.getD_eq_getElem?_getD, List.getD_eq_getElem?_getD]
      show ((B.prof.map _)[k]?).getD _ = _
      rw [List.getElem?_map, List.getElem?_eq_getElem (by omega)]
      rfl
    rw [e, hid_raise hz he]
    rw [List.getD_eq_getElem?_getD, List.getElem?_eq_getElem (by omega)]
    exact (bounds_of_bar hz).2.2.1 _ (List.getElem_mem _)
theorem hid_dbl {B : Bk} (hz : bookBar B = 0) (hz' : bookBar (dblM B) = 0) {eye : Int} (he : EyeOk eye) (he' : EyeOk (2 * eye)) {p : R2} (hp : p ∈ B.prof) : hidAt (dblM B) (2 * eye) (2 * p.1, 2 * p.2) = hidAt B eye p := by
  have hb := bounds_of_bar hz
  have hb' := bounds_of_bar hz'
  have hpo := hb.2.2.1 p hp
  have hsl := low_pt hpo he
  have hp1 := hpo
  unfold PtOk at hp1
  have e : low (2 * p.2 - 2 * eye) (2 * p.1) = low (p.2 - eye) p.1 := low_eq (by omega) (by omega) (by grind)
  have hm := meet_dbl hz hz' he he' hsl
  cases h : meetM B.prof eye (low (p.2 - eye) p.1) with
  | none =>
    rw [h] at hm
    rw [hid_none h, hid_none (by simp only; rw [e]; exact hm)]
  | some x =>
    rw [h] at hm
    rw [hid_some h, hid_some (x := dblS x) (by simp only; rw [e]; exact hm)]
    have h0 : offL p eye (low (p.2 - eye) p.1) = 0 := by
      have hcr := low_cross (n := p.2 - eye) (d := p.1) (by omega)
      unfold offL; omega
    obtain ⟨y, hy, _, hok⟩ := near_line hz he hsl hp h0
    have hxo := meetM_ok hb.2.2.1 he hsl h
    have hxo' := meetM_ok hb'.2.2.1 he' hsl hm
    have hpm : ((2 * p.1, 2 * p.2) : R2) ∈ (dblM B).prof := List.mem_map.2 ⟨p, hp, rfl⟩
    obtain ⟨y', hy', _, hok'⟩ := near_line hz' he' hsl hpm (by rw [off_dbl, h0]; rfl)
    have := dbl_less (y := ((p.1, 1), (p.2, 1))) hxo hok hxo' (by simp only [dblS, dblR_one]; exact hok')
    rw [low_one, low_one]
    simpa [dblS, dblR_one] using this
theorem hidden_dbl {B : Bk} (hz : bookBar B = 0) (hz' : bookBar (dblM B) = 0) {eye : Int} (he : EyeOk eye) (he' : EyeOk (2 * eye)) : ∀ k, k ≤ B.prof.length → hiddenTo (dblM B) (2 * eye) k = hiddenTo B eye k
  | 0, _ => rfl
  | k + 1, hk => by
    unfold hiddenTo
    rw [hidden_dbl hz hz' he he' k (by omega)]
    have e : (dblM B).prof.getD k (0, 0) = (2 * (B.prof.getD k (0, 0)).1, 2 * (B.prof.getD k (0, 0)).2) := by
      rw [List.getD_eq_getElem?_getD, List.getD_eq_getElem?_getD]
      show ((B.prof.map _)[k]?).getD _ = _
      rw [List.getElem?_map, List.getElem?_eq_getElem (by omega)]
      rfl
    rw [e, hid_dbl hz hz' he he']
    rw [List.getD_eq_getElem?_getD, List.getElem?_eq_getElem (by omega)]
    exact List.getElem_mem _
theorem states_raise {B : Bk} (hz : bookBar B = 0) (n : Int) : (statesM (raiseM B n)).length = (statesM B).length := by
  have hb := bounds_of_bar hz
  have e1 : bandL (B.lo + n) (B.hi + n) = (bandL B.lo B.hi).map (· + n) := by
    unfold bandL
    rw [List.map_map, show B.hi + n - (B.lo + n) + 1 = B.hi - B.lo + 1 by omega]
    refine List.map_congr_left fun k _ => ?_
    simp only [Function.comp]
    omega
  have e2 : statesM (raiseM B n) = (statesM B).map (· + n) := by
    unfold statesM
    show (bandL (B.lo + n) (B.hi + n)).filter _ = _
    rw [e1, List.filter_map]
    congr 1
    refine List.filter_congr fun e he => ?_
    simp only [Function.comp]
    have heo : EyeOk e := by
      unfold bandL at he
      obtain ⟨k, hk, rfl⟩ := List.mem_map.1 he
      rw [List.mem_range] at hk
      unfold EyeOk; omega
    unfold rightM
    rw [Bool.eq_iff_iff, List.all_eq_true, List.all_eq_true]
    constructor
    · intro h m hm
      have := h m hm
      rwa [row_raise hz heo (slOk_mark hz hm)] at this
    · intro h m hm
      have := h m hm
      rwa [row_raise hz heo (slOk_mark hz hm)]
  rw [e2, List.length_map]
theorem minus_raise {g : R2} (hg : 1 ≤ g.2) (n : Int) : minusM (g.1 + n * g.2, g.2) g = (n, 1) := by
  unfold minusM
  rw [show (g.1 + n * g.2) * g.2 - g.1 * g.2 = n * (g.2 * g.2) by grind]
  exact low_mul (Int.mul_ne_zero (by omega) (by omega))
end Go.Gx
end

section
set_option linter.unusedSimpArgs false
set_option linter.unusedVariables false
namespace Go.Gx
open Go Go.Conc Go.Proofs
variable {main : Bool}

set_option maxRecDepth 100000 in
set_option maxHeartbeats 4000000 in
/-- raised (law02) -/
theorem s53 (L : Lg Tryz.prog main) (H : Facts) {B : Bk} {A : BkA} {n : Int} (hB : BkR H B A) (hz : bookBar B = 0) (hn : 0 ≤ n ∧ n ≤ 1000) :
    Grows L 53 #[bkV B A, .int .i64 n] H (fun v sf => ∃ a cap, v = .tuple #[bkV (raiseM B n) ⟨a, cap, A.ma, A.mc⟩, .bool (decide (bookBar (raiseM B n) = 0))] ∧ Sl c2 57 (.slice a (raiseM B n).prof.length cap) (raiseM B n).prof sf) := by
  refine Spec.enter Tryz.func53 rfl (by simp [Tryz.f53]) fun c cs hc => ?_
  have hb := bounds_of_bar hz
  have hrp := hB.p
  obtain ⟨pa, pc, ma, mc⟩ := A
  simp only at hrp
  refine At.seq (At.region ?_); refine At.bx rfl rfl rfl rfl rfl rfl rfl fun r2 => ?_; refine At.al rfl rfl rfl rfl rfl fun r4 => ?_; refine At.v rfl rfl rfl rfl rfl trivial ?_; refine At.regionEnd (At.seq (At.region ?_)); refine At.ld 1 rfl rfl rfl rfl rfl rfl rfl rfl rfl ?_; refine At.al rfl rfl rfl rfl rfl fun r6 => ?_; refine At.st 0 rfl rfl rfl rfl rfl rfl rfl rfl rfl rfl rfl rfl ?_; refine At.regionEnd (At.seq (At.region ?_)); refine At.fa 0 rfl rfl rfl rfl rfl rfl rfl ?_
  refine At.st 0 rfl rfl rfl rfl rfl rfl rfl rfl rfl rfl rfl rfl ?_; refine At.regionEnd (At.seq (At.seq (At.region ?_))); refine At.v rfl rfl rfl rfl rfl trivial ?_; refine At.regionEnd ?_; refine At.block ?_
  refine At.lpk (X := { x : Nat × List R2 × Option Addr × Nat × Facts // x.1 ≤ B.prof.length ∧ x.2.1 = (raiseM B n).prof.take x.1 ∧ Sl c2 57 (.slice x.2.2.1 x.2.1.length x.2.2.2.1) x.2.1 x.2.2.2.2 }) [1, 2, 4, 5, 6] (fun x => [(7, .int .i64 (x.1.1 : Int))]) (fun x => .own r6 (.cells #[.slice x.1.2.2.1 x.1.2.1.length x.1.2.2.2.1, .int .i64 B.size, .int .i64 B.lo, .int .i64 B.hi, .slice ma B.marks.length mc] 27 (0, 0)) :: .own r4 (.cells #[.slice none 0 0, .int .i64 0, .int .i64 0, .int .i64 0, .slice none 0 0] 27 (0, 0)) :: .own r2 (.cells (List.toArray (bkC B ⟨pa, pc, ma, mc⟩)) 27 (0, 0)) :: (x.1.2.2.2.2 ++ H)) (fun x => B.prof.length - x.1.1) (⟨(0, [], none, 0, []), Nat.zero_le _, by simp, Sl.nil⟩) rfl ?_ (by repeat (first | exact trivial | refine ⟨rfl, ?_⟩)) sb
  rintro ⟨⟨j, l, a, cap, sf⟩, hj, hl, hsl⟩ again
  simp only at again hj hl hsl ⊢
  have hul : (raiseM B n).prof.length = B.prof.length := by simp [raiseM]
  have hll : l.length ≤ 5 := by rw [hl, List.length_take]; omega
  refine At.seq (At.seq (At.region ?_)); refine At.v rfl rfl rfl rfl rfl trivial ?_; refine At.fa 0 rfl rfl rfl rfl rfl rfl rfl ?_; refine At.ld 2 rfl rfl rfl rfl rfl rfl rfl rfl rfl ?_; refine At.ln rfl rfl rfl rfl rfl rfl rfl rfl ?_; refine At.cp rfl rfl rfl rfl rfl fun b14 h14 => ?_; refine At.regionEnd ?_
  cases b14
  · have e : j = B.prof.length := by simp at h14; omega
    subst e
    rw [List.take_of_length_le (by omega)] at hl
    subst hl
    obtain ⟨_, hrl, _⟩ := hsl.rd
    have q24 := fun H_ (hp_ : Rd H_ a ((raiseM B n).prof.flatMap c2)) (hm_ : Rd H_ ma (B.marks.flatMap c3)) => s24 L H_ (B := raiseM B n) (A := ⟨a, cap, ma, mc⟩) ⟨hp_, hm_⟩ (by omega) (by show B.marks.length ≤ 100000; omega)
    have hrm := hB.m
    simp only at hrm
    have stop24 := trivial
    refine At.cond rfl ?_; refine At.exit rfl ?_; refine At.seq (At.region ?_); (iterate 2 refine At.fa 2 rfl rfl rfl rfl rfl rfl rfl ?_); refine At.ld 2 rfl rfl rfl rfl rfl rfl rfl rfl rfl ?_; refine At.v rfl rfl rfl rfl rfl trivial ?_; refine At.v rfl rfl rfl rfl rfl (by omega) ?_; refine At.fa 2 rfl rfl rfl rfl rfl rfl rfl ?_; refine At.fa 3 rfl rfl rfl rfl rfl rfl rfl ?_; refine At.ld 2 rfl rfl rfl rfl rfl rfl rfl rfl rfl ?_; refine At.v rfl rfl rfl rfl rfl trivial ?_
    refine At.v rfl rfl rfl rfl rfl (by omega) ?_; refine At.q rfl rfl rfl rfl (q_build rfl rfl rfl) ?_; refine At.fa 2 rfl rfl rfl rfl rfl rfl rfl ?_; refine At.st 0 rfl rfl rfl rfl rfl rfl rfl rfl rfl rfl rfl rfl ?_; refine At.regionEnd (At.seq ?_); refine At.drawJ hmix [1] rfl ?_; refine Pool.ld 0 0 rfl rfl rfl rfl rfl rfl rfl rfl rfl rfl rfl ?_; refine Pool.ld 0 1 rfl rfl rfl rfl rfl rfl rfl rfl rfl rfl rfl ?_
    clear stop24
    refine Pool.cq 2 rfl rfl rfl rfl rfl rfl rfl rfl rfl (fun H_ hs_ => q24 H_ hrl.a hrm.a) ?_; refine Pool.cp 3 rfl rfl rfl rfl rfl rfl rfl fun b52 h52 => ?_; refine Pool.st 1 4 rfl rfl rfl rfl rfl rfl rfl rfl rfl rfl rfl rfl rfl rfl rfl rfl rfl rfl sb ?_; refine Pool.v 5 rfl rfl rfl rfl rfl rfl rfl trivial ?_; refine pool_done rfl rfl ?_; refine At.regionEnd ?_
    exact At.ret Tryz.func53 (.inr ⟨_, rfl⟩) rfl (.aggJ 1 rfl rfl rfl (.tmp rfl .nil)) (wk (hc _ _ (⟨sf, ⟨a, cap, by rw [← h52]; rfl, hsl⟩, rfl⟩)))
  · have hlt : j < B.prof.length := by simp at h14; omega
    obtain ⟨b', off', e', hcj⟩ := hrp.el (List.getElem?_eq_getElem hlt)
    cases e'
    have hpo := hb.2.2.1 _ (List.getElem_mem hlt)
    unfold PtOk at hpo
    have hlj : (raiseM B n).prof.take (j + 1) = l ++ [(B.prof[j].1, B.prof[j].2 + n)] := by
      rw [List.take_succ_eq_append_getElem (by omega), ← hl]
      simp only [raiseM, List.getElem_map]
    have stopDraw := trivial
    refine At.cond rfl ?_; refine At.skip (At.seq ?_); refine At.block ?_
    clear stopDraw
    refine At.drawS hmix 3 rfl ?_; refine Pool.fa 0 0 rfl rfl rfl rfl rfl rfl rfl rfl rfl ?_; refine Pool.ld 0 1 rfl rfl rfl rfl rfl rfl rfl rfl rfl rfl rfl ?_; refine Pool.fa 0 2 rfl rfl rfl rfl rfl rfl rfl rfl rfl ?_; refine Pool.ld 2 3 rfl rfl rfl rfl rfl rfl rfl rfl rfl rfl rfl ?_; refine Pool.v 4 rfl rfl rfl rfl rfl rfl rfl trivial ?_; refine Pool.q 5 rfl rfl rfl rfl rfl (q_ia rfl rfl rfl (by assumption)) rfl ?_; refine Pool.faE 6 rfl rfl rfl rfl rfl rfl rfl rfl ?_
    refine Pool.ldc 7 rfl rfl rfl rfl rfl rfl rfl (hcj.s 0 1 rfl) rfl rfl rfl ?_; refine Pool.fa 0 8 rfl rfl rfl rfl rfl rfl rfl rfl rfl ?_; refine Pool.ld 2 9 rfl rfl rfl rfl rfl rfl rfl rfl rfl rfl rfl ?_; refine Pool.v 10 rfl rfl rfl rfl rfl rfl rfl trivial ?_; refine Pool.q 11 rfl rfl rfl rfl rfl (q_ia rfl rfl rfl (by assumption)) rfl ?_; refine Pool.faE 12 rfl rfl rfl rfl rfl rfl rfl rfl ?_; refine Pool.ldc 13 rfl rfl rfl rfl rfl rfl rfl (hcj.s 1 1 rfl) rfl rfl rfl ?_
    refine Pool.v 14 rfl rfl rfl rfl rfl rfl rfl trivial ?_; refine Pool.v 15 rfl rfl rfl rfl rfl rfl rfl (by omega) ?_; refine Pool.q 16 rfl rfl rfl rfl rfl (q_build rfl rfl rfl) rfl ?_; refine Pool.bs 17 rfl rfl rfl rfl rfl rfl rfl rfl rfl rfl rfl rfl rfl rfl rfl sb fun r34 => ?_; refine Pool.fa 0 19 rfl rfl rfl rfl rfl rfl rfl rfl rfl ?_
    refine Pool.push (x := ((B.prof[j].1, B.prof[j].2 + n) : R2)) 18 0 4 rfl rfl rfl rfl rfl rfl rfl rfl rfl rfl rfl rfl rfl rfl rfl rfl rfl rfl rfl rfl rfl hsl rfl rfl rfl (by repeat (first | exact Sub.refl _ | exact Sub.pre _ _ | apply Sub.cons | apply Sub.drop | apply Sub.appL | apply Sub.dropL)) (by omega) fun v sf' hs' => ?_
    obtain ⟨a', cap', rfl⟩ := hs'.slice
    skip
    refine Pool.flush 20 (Hq' := H) rfl rfl rfl rfl rfl rfl (by repeat (first | exact Sub.refl _ | exact Sub.pre _ _ | apply Sub.cons | apply Sub.drop | apply Sub.appL | apply Sub.dropL)) ?_; refine Pool.st 1 20 rfl rfl rfl rfl rfl rfl rfl rfl rfl rfl rfl rfl rfl rfl rfl rfl rfl rfl sb ?_; refine pool_done rfl rfl ?_; refine At.regionEnd ?_; refine At.inBlock ?_; refine At.region ?_; refine At.v rfl rfl rfl rfl rfl trivial ?_; refine At.v rfl rfl rfl rfl rfl (by omega) ?_
    refine At.v rfl rfl rfl rfl rfl trivial ?_; refine At.regionEnd ?_
    refine At.tA ((again ⟨(j + 1, l ++ [(B.prof[j].1, B.prof[j].2 + n)], a', cap', sf'), hlt, hlj.symm, hs'⟩ (by simp; omega)))
set_option maxRecDepth 100000 in
set_option maxHeartbeats 4000000 in
/-- doubled (law02) -/
theorem s55 (L : Lg Tryz.prog main) (H : Facts) {B : Bk} {A : BkA} (hB : BkR H B A) (hz : bookBar B = 0) :
    Grows L 55 #[bkV B A] H (fun v sf => ∃ a cap, v = .tuple #[bkV (dblM B) ⟨a, cap, none, 0⟩, .bool (decide (bookBar (dblM B) = 0))] ∧ Sl c2 57 (.slice a (dblM B).prof.length cap) (dblM B).prof sf) := by
  refine Spec.enter Tryz.func55 rfl (by simp [Tryz.f55]) fun c cs hc => ?_
  have hb := bounds_of_bar hz
  have hrp := hB.p
  obtain ⟨pa, pc, ma, mc⟩ := A
  simp only at hrp
  refine At.seq (At.region ?_); refine At.bx rfl rfl rfl rfl rfl rfl rfl fun r1 => ?_; refine At.al rfl rfl rfl rfl rfl fun r2 => ?_; refine At.v rfl rfl rfl rfl rfl trivial ?_; refine At.regionEnd (At.seq (At.region ?_)); refine At.ld 1 rfl rfl rfl rfl rfl rfl rfl rfl rfl ?_; refine At.al rfl rfl rfl rfl rfl fun r4 => ?_; refine At.st 0 rfl rfl rfl rfl rfl rfl rfl rfl rfl rfl rfl rfl ?_; refine At.regionEnd (At.seq (At.region ?_)); refine At.fa 0 rfl rfl rfl rfl rfl rfl rfl ?_
  refine At.st 0 rfl rfl rfl rfl rfl rfl rfl rfl rfl rfl rfl rfl ?_; refine At.regionEnd (At.seq (At.seq (At.region ?_))); refine At.v rfl rfl rfl rfl rfl trivial ?_; refine At.regionEnd ?_; refine At.block ?_
  refine At.lpk (X := { x : Nat × List R2 × Option Addr × Nat × Facts // x.1 ≤ B.prof.length ∧ x.2.1 = (dblM B).prof.take x.1 ∧ Sl c2 57 (.slice x.2.2.1 x.2.1.length x.2.2.2.1) x.2.1 x.2.2.2.2 }) [1, 2, 3, 4] (fun x => [(5, .int .i64 (x.1.1 : Int))]) (fun x => .own r4 (.cells #[.slice x.1.2.2.1 x.1.2.1.length x.1.2.2.2.1, .int .i64 B.size, .int .i64 B.lo, .int .i64 B.hi, .slice ma B.marks.length mc] 27 (0, 0)) :: .own r2 (.cells #[.slice none 0 0, .int .i64 0, .int .i64 0, .int .i64 0, .slice none 0 0] 27 (0, 0)) :: .own r1 (.cells (List.toArray (bkC B ⟨pa, pc, ma, mc⟩)) 27 (0, 0)) :: (x.1.2.2.2.2 ++ H)) (fun x => B.prof.length - x.1.1) (⟨(0, [], none, 0, []), Nat.zero_le _, by simp, Sl.nil⟩) rfl ?_ (by repeat (first | exact trivial | refine ⟨rfl, ?_⟩)) sb
  rintro ⟨⟨j, l, a, cap, sf⟩, hj, hl, hsl⟩ again
  simp only at again hj hl hsl ⊢
  have hul : (dblM B).prof.length = B.prof.length := by simp [dblM]
  have hll : l.length ≤ 5 := by rw [hl, List.length_take]; omega
  refine At.seq (At.seq (At.region ?_)); refine At.v rfl rfl rfl rfl rfl trivial ?_; refine At.fa 0 rfl rfl rfl rfl rfl rfl rfl ?_; refine At.ld 2 rfl rfl rfl rfl rfl rfl rfl rfl rfl ?_; refine At.ln rfl rfl rfl rfl rfl rfl rfl rfl ?_; refine At.cp rfl rfl rfl rfl rfl fun b12 h12 => ?_; refine At.regionEnd ?_
  cases b12
  · have e : j = B.prof.length := by simp at h12; omega
    subst e
    rw [List.take_of_length_le (by omega)] at hl
    subst hl
    obtain ⟨_, hrl, _⟩ := hsl.rd
    have q24 := fun H_ (hp_ : Rd H_ a ((dblM B).prof.flatMap c2)) => s24 L H_ (B := dblM B) (A := ⟨a, cap, none, 0⟩) ⟨hp_, .inl rfl⟩ (by omega) (by simp [dblM])
    have stopDraw := trivial
    refine At.cond rfl ?_; refine At.exit rfl ?_; refine At.seq ?_
    clear stopDraw
    refine At.drawJ hmix [0] rfl ?_
    have stop24 := trivial
    refine Pool.fa 1 0 rfl rfl rfl rfl rfl rfl rfl rfl rfl ?_; refine Pool.ld 1 1 rfl rfl rfl rfl rfl rfl rfl rfl rfl rfl rfl ?_; refine Pool.v 2 rfl rfl rfl rfl rfl rfl rfl (by omega) ?_; refine Pool.fa 2 3 rfl rfl rfl rfl rfl rfl rfl rfl rfl ?_; refine Pool.fa 2 4 rfl rfl rfl rfl rfl rfl rfl rfl rfl ?_; refine Pool.ld 1 5 rfl rfl rfl rfl rfl rfl rfl rfl rfl rfl rfl ?_; refine Pool.v 6 rfl rfl rfl rfl rfl rfl rfl (by omega) ?_; refine Pool.fa 2 7 rfl rfl rfl rfl rfl rfl rfl rfl rfl ?_
    refine Pool.fa 2 8 rfl rfl rfl rfl rfl rfl rfl rfl rfl ?_; refine Pool.ld 1 9 rfl rfl rfl rfl rfl rfl rfl rfl rfl rfl rfl ?_; refine Pool.v 10 rfl rfl rfl rfl rfl rfl rfl (by omega) ?_; refine Pool.q 11 rfl rfl rfl rfl rfl (q_build rfl rfl rfl) rfl ?_; refine Pool.fa 1 12 rfl rfl rfl rfl rfl rfl rfl rfl rfl ?_; refine Pool.st 0 13 rfl rfl rfl rfl rfl rfl rfl rfl rfl rfl rfl rfl rfl rfl rfl rfl rfl rfl sb ?_; refine Pool.fa 2 14 rfl rfl rfl rfl rfl rfl rfl rfl rfl ?_
    refine Pool.st 0 15 rfl rfl rfl rfl rfl rfl rfl rfl rfl rfl rfl rfl rfl rfl rfl rfl rfl rfl sb ?_; refine Pool.fa 4 16 rfl rfl rfl rfl rfl rfl rfl rfl rfl ?_; refine Pool.st 0 17 rfl rfl rfl rfl rfl rfl rfl rfl rfl rfl rfl rfl rfl rfl rfl rfl rfl rfl sb ?_; refine pool_done rfl rfl ?_; refine At.regionEnd (At.seq ?_); refine At.drawJ hmix [1] rfl ?_; refine Pool.ld 0 0 rfl rfl rfl rfl rfl rfl rfl rfl rfl rfl rfl ?_; refine Pool.ld 0 1 rfl rfl rfl rfl rfl rfl rfl rfl rfl rfl rfl ?_
    clear stop24
    refine Pool.cq 2 rfl rfl rfl rfl rfl rfl rfl rfl rfl (fun H_ hs_ => q24 H_ hrl.a) ?_; refine Pool.cp 3 rfl rfl rfl rfl rfl rfl rfl fun b53 h53 => ?_; refine Pool.st 1 4 rfl rfl rfl rfl rfl rfl rfl rfl rfl rfl rfl rfl rfl rfl rfl rfl rfl rfl sb ?_; refine Pool.v 5 rfl rfl rfl rfl rfl rfl rfl trivial ?_; refine pool_done rfl rfl ?_; refine At.regionEnd ?_
    exact At.ret Tryz.func55 (.inr ⟨_, rfl⟩) rfl (.aggJ 1 rfl rfl rfl (.tmp rfl .nil)) (wk (hc _ _ (⟨sf, ⟨a, cap, by rw [← h53]; rfl, hsl⟩, rfl⟩)))
  · have hlt : j < B.prof.length := by simp at h12; omega
    obtain ⟨b', off', e', hcj⟩ := hrp.el (List.getElem?_eq_getElem hlt)
    cases e'
    have hpo := hb.2.2.1 _ (List.getElem_mem hlt)
    unfold PtOk at hpo
    have hlj : (dblM B).prof.take (j + 1) = l ++ [(2 * B.prof[j].1, 2 * B.prof[j].2)] := by
      rw [List.take_succ_eq_append_getElem (by omega), ← hl]
      simp only [dblM, List.getElem_map]
    have stopDraw := trivial
    refine At.cond rfl ?_; refine At.skip (At.seq ?_); refine At.block ?_
    clear stopDraw
    refine At.drawS hmix 3 rfl ?_; refine Pool.fa 0 0 rfl rfl rfl rfl rfl rfl rfl rfl rfl ?_; refine Pool.ld 0 1 rfl rfl rfl rfl rfl rfl rfl rfl rfl rfl rfl ?_; refine Pool.fa 0 2 rfl rfl rfl rfl rfl rfl rfl rfl rfl ?_; refine Pool.ld 2 3 rfl rfl rfl rfl rfl rfl rfl rfl rfl rfl rfl ?_; refine Pool.v 4 rfl rfl rfl rfl rfl rfl rfl trivial ?_; refine Pool.q 5 rfl rfl rfl rfl rfl (q_ia rfl rfl rfl (by assumption)) rfl ?_; refine Pool.faE 6 rfl rfl rfl rfl rfl rfl rfl rfl ?_
    refine Pool.ldc 7 rfl rfl rfl rfl rfl rfl rfl (hcj.s 0 1 rfl) rfl rfl rfl ?_; refine Pool.v 8 rfl rfl rfl rfl rfl rfl rfl (by omega) ?_; refine Pool.fa 0 9 rfl rfl rfl rfl rfl rfl rfl rfl rfl ?_; refine Pool.ld 2 10 rfl rfl rfl rfl rfl rfl rfl rfl rfl rfl rfl ?_; refine Pool.v 11 rfl rfl rfl rfl rfl rfl rfl trivial ?_; refine Pool.q 12 rfl rfl rfl rfl rfl (q_ia rfl rfl rfl (by assumption)) rfl ?_; refine Pool.faE 13 rfl rfl rfl rfl rfl rfl rfl rfl ?_
    refine Pool.ldc 14 rfl rfl rfl rfl rfl rfl rfl (hcj.s 1 1 rfl) rfl rfl rfl ?_; refine Pool.v 15 rfl rfl rfl rfl rfl rfl rfl (by omega) ?_; refine Pool.q 16 rfl rfl rfl rfl rfl (q_build rfl rfl rfl) rfl ?_; refine Pool.bs 17 rfl rfl rfl rfl rfl rfl rfl rfl rfl rfl rfl rfl rfl rfl rfl sb fun r32 => ?_; refine Pool.fa 0 19 rfl rfl rfl rfl rfl rfl rfl rfl rfl ?_
    refine Pool.push (x := ((2 * B.prof[j].1, 2 * B.prof[j].2) : R2)) 18 0 4 rfl rfl rfl rfl rfl rfl rfl rfl rfl rfl rfl rfl rfl rfl rfl rfl rfl rfl rfl rfl rfl hsl rfl rfl rfl (by repeat (first | exact Sub.refl _ | exact Sub.pre _ _ | apply Sub.cons | apply Sub.drop | apply Sub.appL | apply Sub.dropL)) (by omega) fun v sf' hs' => ?_
    obtain ⟨a', cap', rfl⟩ := hs'.slice
    skip
    refine Pool.flush 20 (Hq' := H) rfl rfl rfl rfl rfl rfl (by repeat (first | exact Sub.refl _ | exact Sub.pre _ _ | apply Sub.cons | apply Sub.drop | apply Sub.appL | apply Sub.dropL)) ?_; refine Pool.st 1 20 rfl rfl rfl rfl rfl rfl rfl rfl rfl rfl rfl rfl rfl rfl rfl rfl rfl rfl sb ?_; refine pool_done rfl rfl ?_; refine At.regionEnd ?_; refine At.inBlock ?_; refine At.region ?_; refine At.v rfl rfl rfl rfl rfl trivial ?_; refine At.v rfl rfl rfl rfl rfl (by omega) ?_
    refine At.v rfl rfl rfl rfl rfl trivial ?_; refine At.regionEnd ?_
    refine At.tA ((again ⟨(j + 1, l ++ [(2 * B.prof[j].1, 2 * B.prof[j].2)], a', cap', sf'), hlt, hlj.symm, hs'⟩ (by simp; omega)))
end Go.Gx
end

section
set_option linter.unusedSimpArgs false
set_option linter.unusedVariables false
namespace Go.Gx
open Go Go.Conc Go.Proofs

/-! ### what is met, of a canvas, of one that is raised, and of one twice as large -/
def metV (B : Bk) (eye : Int) (s : R2) : Value := .tuple #[rV ((meetM B.prof eye s).getD ((0, 0), (0, 0))).1, rV ((meetM B.prof eye s).getD ((0, 0), (0, 0))).2, .bool (meetM B.prof eye s).isSome, .int .i64 0]
structure AlikeV (B : Bk) (eye : Int) (s f g pt : R2) (r : Int) (fd : Bool) : Prop where
  met : metV B eye s = .tuple #[rV f, rV g, .bool fd, .int .i64 0]
  sq : sqV B eye s = .tuple #[.int .i64 r, rV pt, .bool fd, .int .i64 0]
  bd : fd = true → (0 ≤ f.1 ∧ f.1 ≤ 360000) ∧ (1 ≤ f.2 ∧ f.2 ≤ 6000) ∧ (0 ≤ g.1 ∧ g.1 ≤ 540000) ∧ (1 ≤ g.2 ∧ g.2 ≤ 6000)
  rmet : ∀ n, metV (raiseM B n) (eye + n) s = .tuple #[rV f, rV (g.1 + n * g.2, g.2), .bool fd, .int .i64 0]
  rsq : ∀ n, sqV (raiseM B n) (eye + n) s = .tuple #[.int .i64 r, rV pt, .bool fd, .int .i64 0]
  dbl : bookBar (dblM B) = 0 → EyeOk (2 * eye) → ∃ F2 G2 : R2, metV (dblM B) (2 * eye) s = .tuple #[rV F2, rV G2, .bool fd, .int .i64 0] ∧ sqV (dblM B) (2 * eye) s = .tuple #[.int .i64 r, rV pt, .bool fd, .int .i64 0] ∧ (fd = true → F2 = dblR f ∧ G2 = dblR g)
theorem alike_cases {B : Bk} (hz : bookBar B = 0) {eye : Int} {s : R2} (he : EyeOk eye) (hs : -20 ≤ s.1 ∧ s.1 ≤ 20 ∧ 1 ≤ s.2 ∧ s.2 ≤ 20) : ∃ (f g pt : R2) (r : Int) (fd : Bool), AlikeV B eye s f g pt r fd := by
  have hsl : SlOk s := by unfold SlOk; omega
  cases hm : meetM B.prof eye s with
  | none =>
    have h1 : ∀ n, meetM (raiseM B n).prof (eye + n) s = none := fun n => by rw [meet_raise hz he hsl, hm]; rfl
    refine ⟨(0, 0), (0, 0), (0, 0), 0, false, ?_, sqV_none hm, by simp, ?_, fun n => sqV_none (h1 n), fun hz' he' => ?_⟩
    · unfold metV; rw [hm]; rfl
    · intro n
      unfold metV
      rw [h1 n]
      simp
    · have h2 : meetM (dblM B).prof (2 * eye) s = none := by rw [meet_dbl hz hz' he he' hsl, hm]; rfl
      exact ⟨(0, 0), (0, 0), by unfold metV; rw [h2]; rfl, sqV_none h2, by simp⟩
  | some x =>
    have h1 : ∀ n, meetM (raiseM B n).prof (eye + n) s = some (raiseS n x) := fun n => by rw [meet_raise hz he hsl, hm]; rfl
    have e := exact_of hz he hs hm
    have hN : 0 ≤ x.2.1 - footM B * x.2.2 := by
      have := meet_high hz hm
      have := e.l2.1
      omega
    refine ⟨x.1, x.2, (squareM B x.2).2, (squareM B x.2).1, true, ?_, sqV_some hm, ?_, ?_, ?_, fun hz' he' => ?_⟩
    · unfold metV; rw [hm]; rfl
    · intro _
      have := e.l1.1
      have := e.l2.1
      have := e.f1
      have := e.f2
      have := e.h1
      have := e.h2
      omega
    · intro n
      unfold metV
      rw [h1 n]
      rfl
    · intro n
      rw [sqV_some (h1 n)]
      have := square_raise hz n x.2
      unfold raiseS
      rw [this]
    · have h2 : meetM (dblM B).prof (2 * eye) s = some (dblS x) := by rw [meet_dbl hz hz' he he' hsl, hm]; rfl
      refine ⟨dblR x.1, dblR x.2, by unfold metV; rw [h2]; rfl, ?_, fun _ => ⟨rfl, rfl⟩⟩
      rw [sqV_some h2]
      have := square_dbl hz e.l2.1 hN
      unfold dblS
      rw [this]
set_option maxRecDepth 100000 in
set_option maxHeartbeats 4000000 in
/-- CanvasAlike -/
theorem law8 {Post : Value → World → Prop} {W₀ : World} {H Hg : Facts} (hG : Glo H Hg) (hsh : ∀ f ∈ H, f.isOwn = false) {B : Bk} {A : BkA} (hBk : BkR H B A) {h d k n : Int} (hh : 0 ≤ h ∧ h ≤ 255) (hd : 0 ≤ d ∧ d ≤ 255) (hk : 0 ≤ k ∧ k ≤ 255) (hn : -128 ≤ n ∧ n ≤ 127) :
    LawAt (mainLg Tryz.prog Post W₀ [] []) 8 #[bkV B A, .int .u8 h, .int .u8 d, .int .u8 k, .int .i8 n] H (.bool true) := by
  refine LawAt.enter Tryz.func8 rfl (by simp [Tryz.f8]) fun cs hLB => ?_
  obtain ⟨pa, pc, ma, mc⟩ := A
  generalize hL : mainLg Tryz.prog Post W₀ [] [] = L at hLB ⊢
  have stop22 := trivial
  refine At.seq (At.region ?_); refine At.bx rfl rfl rfl rfl rfl rfl rfl fun r5 => ?_; refine At.v rfl rfl rfl rfl rfl trivial ?_; refine At.regionEnd (At.seq (At.seq (At.region ?_))); refine At.ld 0 rfl rfl rfl rfl rfl rfl rfl rfl rfl ?_; refine At.cqb rfl rfl rfl rfl rfl rfl rfl rfl (s39 L _ bs) fun b53 h53 => ?_; refine At.v rfl rfl rfl rfl rfl trivial ?_; refine At.regionEnd ?_
  cases b53
  · refine At.cond rfl ?_
    refine At.seq (At.region ?_)
    subst hL
    refine At.cq rfl rfl rfl rfl rfl rfl rfl rfl (s22 hG.a) ?_; refine At.v rfl rfl rfl rfl rfl trivial ?_; refine At.regionEnd ?_
    exact hLB Tryz.func8 (.inr ⟨_, rfl⟩) rfl (.tmp rfl .nil) (⟨by rfl, rfl⟩)
  have hf : fitM B = true := h53
  have hz : bookBar B = 0 := by simp [fitM] at hf; exact hf.2.2
  have hg : Cells H 0 0 chkC := hG.g.a hG.sub
  have hb := bounds_of_bar hz
  have hrp := hBk.p
  have hrm := hBk.m
  simp only at hrp hrm
  have hO : Opn H B ⟨pa, pc, ma, mc⟩ := ⟨hg, hBk, by omega, by omega⟩
  have w1 : IntKind.wrap .i64 h = h := wrap_in (by omega)
  have w2 : IntKind.wrap .i64 k = k := wrap_in (by omega)
  have stop25 := trivial
  refine At.cond rfl ?_; refine At.skip (At.seq (At.region ?_)); refine At.v rfl rfl rfl rfl rfl trivial ?_; refine At.q rfl rfl rfl rfl (q_conv rfl rfl rfl) ?_; refine At.v rfl rfl rfl rfl rfl (by omega) ?_; (iterate 2 refine At.v rfl rfl rfl rfl rfl trivial ?_); refine At.cq rfl rfl rfl rfl rfl rfl rfl rfl (s40 L _ bs bs) ?_; refine At.v rfl rfl rfl rfl rfl trivial ?_; refine At.q rfl rfl rfl rfl (q_conv rfl rfl rfl) ?_; refine At.v rfl rfl rfl rfl rfl (by omega) ?_
  refine At.al rfl rfl rfl rfl rfl fun r12 => ?_; refine At.v rfl rfl rfl rfl rfl trivial ?_; refine At.st 0 rfl rfl rfl rfl rfl rfl rfl rfl rfl rfl rfl rfl ?_; refine At.v rfl rfl rfl rfl rfl trivial ?_; refine At.regionEnd (At.seq (At.region ?_)); refine At.ld 1 rfl rfl rfl rfl rfl rfl rfl rfl rfl ?_; refine At.v rfl rfl rfl rfl rfl trivial ?_; refine At.ld 0 rfl rfl rfl rfl rfl rfl rfl rfl rfl ?_
  clear stop25
  rw [w1, w2]
  have he : EyeOk (h.tmod 91) := ⟨Int.tmod_nonneg _ hh.1, by have := Int.tmod_lt_of_pos h (show (0 : Int) < 91 by decide); omega⟩
  have hup : 0 ≤ k.tmod 30 ∧ k.tmod 30 ≤ 29 := ⟨Int.tmod_nonneg _ hk.1, by have := Int.tmod_lt_of_pos k (show (0 : Int) < 30 by decide); omega⟩
  have hsb : slopeBar (low (n.tmod 21) (1 + d.tmod 20)).1 (low (n.tmod 21) (1 + d.tmod 20)).2 = 0 :=
    low_slope (tmod_bd n 21 (by omega)) (by have h1 := Int.tmod_nonneg 20 hd.1; have h2 := Int.tmod_lt_of_pos d (show (0 : Int) < 20 by decide); omega)
  generalize h.tmod 91 = eye at he ⊢
  generalize k.tmod 30 = up at hup ⊢
  generalize low (n.tmod 21) (1 + d.tmod 20) = s at hsb ⊢
  have hs := slOk_of_bar hsb
  have he0 : hBar eye = 0 := if_pos he
  have hE := he
  unfold EyeOk at hE
  have b1 : lookBar B [hBar eye] = 0 := by rw [lookBar1 hz, firstBar1, he0]
  have b2 : lookBar B [hBar eye, slopeBar s.1 s.2] = 0 := by rw [lookBar1 hz, firstBar2, hsb, he0]; rfl
  obtain ⟨f, g, pt, r, fd, hA⟩ := alike_cases hz he hs
  obtain ⟨hA1, hA2, hA3, hA4, hA5, hA6⟩ := hA
  have q25 := fun H_ (hO_ : Opn H_ B ⟨pa, pc, ma, mc⟩) => s25 L H_ (eye := eye) (s := s) hO_
  have q27 := fun H_ (hO_ : Opn H_ B ⟨pa, pc, ma, mc⟩) => s27 L H_ (eye := eye) (s := s) hO_
  have q29 := fun H_ (hO_ : Opn H_ B ⟨pa, pc, ma, mc⟩) => s29 L H_ (eye := eye) hO_
  unfold metV at hA1
  simp only [b1, b2, ne_eq, not_true_eq_false, if_false, hA1, hA2] at q25 q27 q29
  have hll := hiddenTo_len B eye B.prof.length
  have hrh := fun n => hidden_raise (n := n) hz he B.prof.length (Nat.le_refl _)
  have hdh := fun hz' he' => hidden_dbl hz hz' he he' B.prof.length (Nat.le_refl _)
  generalize hiddenTo B eye B.prof.length = hl at q29 hll hrh hdh
  refine At.cq rfl rfl rfl rfl rfl rfl rfl rfl (q25 _ hO.a) ?_
  have stop27 := trivial
  (iterate 5 refine At.v rfl rfl rfl rfl rfl trivial ?_); refine At.al rfl rfl rfl rfl rfl fun r14 => ?_; refine At.al rfl rfl rfl rfl rfl fun r15 => ?_; refine At.st 1 rfl rfl rfl rfl rfl rfl rfl rfl rfl rfl rfl rfl ?_; refine At.st 0 rfl rfl rfl rfl rfl rfl rfl rfl rfl rfl rfl rfl ?_; (iterate 2 refine At.v rfl rfl rfl rfl rfl trivial ?_); refine At.regionEnd (At.seq (At.region ?_)); refine At.ld 3 rfl rfl rfl rfl rfl rfl rfl rfl rfl ?_; refine At.v rfl rfl rfl rfl rfl trivial ?_
  refine At.ld 2 rfl rfl rfl rfl rfl rfl rfl rfl rfl ?_
  clear stop27
  refine At.cq rfl rfl rfl rfl rfl rfl rfl rfl (q27 _ hO.a) ?_
  have stop29 := trivial
  (iterate 5 refine At.v rfl rfl rfl rfl rfl trivial ?_); refine At.al rfl rfl rfl rfl rfl fun r19 => ?_; refine At.v rfl rfl rfl rfl rfl trivial ?_; refine At.st 0 rfl rfl rfl rfl rfl rfl rfl rfl rfl rfl rfl rfl ?_; (iterate 2 refine At.v rfl rfl rfl rfl rfl trivial ?_); refine At.regionEnd (At.seq (At.region ?_)); refine At.ld 4 rfl rfl rfl rfl rfl rfl rfl rfl rfl ?_; refine At.v rfl rfl rfl rfl rfl trivial ?_
  clear stop29
  refine At.cl rfl rfl rfl rfl rfl rfl rfl rfl (q29 _ hO.a) ?_
  rintro _ _ ⟨sf1, ⟨a1, cap1, rfl, hsl1⟩, rfl⟩
  refine At.back ?_
  obtain ⟨_, r1, _⟩ := hsl1.rd
  (iterate 5 refine At.v rfl rfl rfl rfl rfl trivial ?_); refine At.regionEnd (At.seq (At.seq (At.region ?_))); refine At.v rfl rfl rfl rfl rfl trivial ?_; refine At.cp rfl rfl rfl rfl rfl fun b90 h90 => ?_; refine At.v rfl rfl rfl rfl rfl trivial ?_
  obtain rfl : b90 = false := h90.symm.trans (by kernel_rfl)
  refine At.v rfl rfl rfl rfl rfl trivial ?_; refine At.cp rfl rfl rfl rfl rfl fun b93 h93 => ?_; (iterate 2 refine At.v rfl rfl rfl rfl rfl trivial ?_)
  obtain rfl : b93 = false := h93.symm.trans (by kernel_rfl)
  refine At.v rfl rfl rfl rfl rfl trivial ?_; refine At.cp rfl rfl rfl rfl rfl fun b97 h97 => ?_; (iterate 2 refine At.v rfl rfl rfl rfl rfl trivial ?_)
  obtain rfl : b97 = false := h97.symm.trans (by kernel_rfl)
  (iterate 2 refine At.v rfl rfl rfl rfl rfl trivial ?_); refine At.cutk (X := Unit) [5, 10, 11, 12, 13, 14, 15, 16, 17, 18, 19, 20, 21, 22, 23] (fun _ => [(111, .bool false)]) (fun _ => .own r19 (.cells (List.toArray (c2 pt)) 29 (0, 0)) :: .own r15 (.cells (List.toArray (c2 g)) 29 (0, 0)) :: .own r14 (.cells (List.toArray (c2 f)) 29 (0, 0)) :: .own r12 (.cells (List.toArray (c2 s)) 29 (0, 0)) :: .own r5 (.cells (List.toArray (bkC B ⟨pa, pc, ma, mc⟩)) 27 (0, 0)) :: (sf1 ++ H)) rfl ?_ fun key => ?_
  rotate_left
  · cases fd
    · refine At.un rfl rfl rfl rfl ?_
      (iterate 7 refine At.un rfl rfl rfl rfl ?_); (iterate 2 refine At.v rfl rfl rfl rfl rfl trivial ?_); refine At.regionEnd ?_
      refine At.tA ((key ()))
    · obtain ⟨d1, d2, d3, d4⟩ := hA3 rfl
      refine At.fa 1 rfl rfl rfl rfl rfl rfl rfl ?_; refine At.ld 2 rfl rfl rfl rfl rfl rfl rfl rfl rfl ?_; refine At.cp rfl rfl rfl rfl rfl fun b104 h104 => ?_; refine At.v rfl rfl rfl rfl rfl trivial ?_
      obtain rfl : b104 = false := h104.symm.trans (decide_eq_false (by omega))
      refine At.fa 1 rfl rfl rfl rfl rfl rfl rfl ?_; refine At.ld 1 rfl rfl rfl rfl rfl rfl rfl rfl rfl ?_; refine At.cp rfl rfl rfl rfl rfl fun b108 h108 => ?_; (iterate 3 refine At.v rfl rfl rfl rfl rfl trivial ?_); refine At.regionEnd ?_
      obtain rfl : b108 = false := by rw [← h108]; exact decide_eq_false (by omega)
      refine At.tA ((key ()))
  rintro ⟨⟩
  refine At.cond rfl ?_; refine At.skip (At.seq ?_); refine At.cutk (X := Unit) [5, 11, 12, 13, 14, 15, 16, 18, 19, 20, 22] (fun _ => []) (fun _ => .own r19 (.cells (List.toArray (c2 pt)) 29 (0, 0)) :: .own r15 (.cells (List.toArray (c2 g)) 29 (0, 0)) :: .own r14 (.cells (List.toArray (c2 f)) 29 (0, 0)) :: .own r12 (.cells (List.toArray (c2 s)) 29 (0, 0)) :: .own r5 (.cells (List.toArray (bkC B ⟨pa, pc, ma, mc⟩)) 27 (0, 0)) :: (sf1 ++ H)) rfl ?_ fun key => ?_
  rotate_left
  · by_cases hz' : bookBar (raiseM B up) = 0
    · have q53 := fun H_ (hB_ : BkR H_ B ⟨pa, pc, ma, mc⟩) => s53 L H_ (n := up) hB_ hz (by omega)
      rw [decide_eq_true hz'] at q53
      have stop53 := trivial
      refine At.seq (At.region ?_); refine At.ld 4 rfl rfl rfl rfl rfl rfl rfl rfl rfl ?_; refine At.v rfl rfl rfl rfl rfl trivial ?_
      clear stop53
      refine At.cl rfl rfl rfl rfl rfl rfl rfl rfl (q53 _ hBk.a) ?_
      rintro _ _ ⟨sf2, ⟨a2, cap2, rfl, hsl2⟩, rfl⟩
      refine At.back ?_
      obtain ⟨_, r2, _⟩ := hsl2.rd
      by_cases heu : eye + up ≤ 90
      rotate_left
      · refine At.v rfl rfl rfl rfl rfl trivial ?_
        (iterate 2 refine At.v rfl rfl rfl rfl rfl trivial ?_); refine At.al rfl rfl rfl rfl rfl fun r24 => ?_; refine At.st 0 rfl rfl rfl rfl rfl rfl rfl rfl rfl rfl rfl rfl ?_; refine At.v rfl rfl rfl rfl rfl trivial ?_; refine At.regionEnd (At.seq (At.region ?_)); (iterate 4 refine At.v rfl rfl rfl rfl rfl trivial ?_); refine At.v rfl rfl rfl rfl rfl (by omega) ?_; refine At.cp rfl rfl rfl rfl rfl fun b123 h123 => ?_; refine At.v rfl rfl rfl rfl rfl trivial ?_; refine At.regionEnd ?_
        obtain rfl : b123 = false := h123.symm.trans (decide_eq_false (by omega))
        refine At.cond rfl ?_; refine At.skip ?_
        refine At.tA ((key ()))
      have he2 : EyeOk (eye + up) := by unfold EyeOk; omega
      have hul : (raiseM B up).prof.length = B.prof.length := by simp [raiseM]
      have hO2 : ∀ H_, Cells H_ 0 0 chkC → Rd H_ a2 ((raiseM B up).prof.flatMap c2) → Rd H_ ma (B.marks.flatMap c3) → Opn H_ (raiseM B up) ⟨a2, cap2, ma, mc⟩ := fun H_ c1_ c2_ c3_ => ⟨c1_, ⟨c2_, c3_⟩, by omega, by show B.marks.length ≤ 100000; omega⟩
      have e1 : lookBar (raiseM B up) [hBar (eye + up)] = 0 := by rw [lookBar1 hz', firstBar1]; exact if_pos he2
      have e2 : lookBar (raiseM B up) [hBar (eye + up), slopeBar s.1 s.2] = 0 := by rw [lookBar1 hz', firstBar2, hsb, show hBar (eye + up) = 0 from if_pos he2]; rfl
      have p25 := fun H_ c1_ c2_ c3_ => s25 L H_ (eye := eye + up) (s := s) (hO2 H_ c1_ c2_ c3_)
      have p27 := fun H_ c1_ c2_ c3_ => s27 L H_ (eye := eye + up) (s := s) (hO2 H_ c1_ c2_ c3_)
      have p29 := fun H_ c1_ c2_ c3_ => s29 L H_ (eye := eye + up) (hO2 H_ c1_ c2_ c3_)
      have q51 := fun H_ (hO_ : Opn H_ B ⟨pa, pc, ma, mc⟩) => s51 L H_ hO_
      have p51 := fun H_ c1_ c2_ c3_ => s51 L H_ (hO2 H_ c1_ c2_ c3_)
      have hA4' := hA4 up
      have hA5' := hA5 up
      unfold metV at hA4'
      simp only [e1, e2, hz, hz', ne_eq, not_true_eq_false, if_false, hA4', hA5', hul, hrh] at p25 p27 p29 q51 p51
      have hsr := states_raise hz up
      generalize (statesM (raiseM B up)) = v2 at p51 hsr
      generalize (statesM B) = v1 at q51 hsr
      have stop25 := trivial
      (iterate 3 refine At.v rfl rfl rfl rfl rfl trivial ?_); refine At.al rfl rfl rfl rfl rfl fun r24 => ?_; refine At.st 0 rfl rfl rfl rfl rfl rfl rfl rfl rfl rfl rfl rfl ?_; refine At.v rfl rfl rfl rfl rfl trivial ?_; refine At.regionEnd (At.seq (At.region ?_)); (iterate 4 refine At.v rfl rfl rfl rfl rfl trivial ?_); refine At.v rfl rfl rfl rfl rfl (by omega) ?_; refine At.cp rfl rfl rfl rfl rfl fun b123 h123 => ?_; refine At.v rfl rfl rfl rfl rfl trivial ?_; refine At.regionEnd ?_
      obtain rfl : b123 = true := h123.symm.trans (decide_eq_true (by omega))
      refine At.cond rfl ?_; refine At.seq (At.region ?_); refine At.ld 0 rfl rfl rfl rfl rfl rfl rfl rfl rfl ?_; (iterate 2 refine At.v rfl rfl rfl rfl rfl trivial ?_); refine At.v rfl rfl rfl rfl rfl (by omega) ?_; refine At.ld 4 rfl rfl rfl rfl rfl rfl rfl rfl rfl ?_
      clear stop25
      refine At.cq rfl rfl rfl rfl rfl rfl rfl rfl (p25 _ hg.a r2.a hrm.a) ?_
      have stop27 := trivial
      (iterate 5 refine At.v rfl rfl rfl rfl rfl trivial ?_); refine At.al rfl rfl rfl rfl rfl fun r26 => ?_; refine At.al rfl rfl rfl rfl rfl fun r27 => ?_; refine At.st 1 rfl rfl rfl rfl rfl rfl rfl rfl rfl rfl rfl rfl ?_; refine At.st 0 rfl rfl rfl rfl rfl rfl rfl rfl rfl rfl rfl rfl ?_; (iterate 2 refine At.v rfl rfl rfl rfl rfl trivial ?_); refine At.regionEnd (At.seq (At.region ?_)); refine At.ld 2 rfl rfl rfl rfl rfl rfl rfl rfl rfl ?_; (iterate 2 refine At.v rfl rfl rfl rfl rfl trivial ?_)
      refine At.v rfl rfl rfl rfl rfl (by omega) ?_; refine At.ld 6 rfl rfl rfl rfl rfl rfl rfl rfl rfl ?_
      clear stop27
      refine At.cq rfl rfl rfl rfl rfl rfl rfl rfl (p27 _ hg.a r2.a hrm.a) ?_
      have stop29 := trivial
      (iterate 5 refine At.v rfl rfl rfl rfl rfl trivial ?_); refine At.al rfl rfl rfl rfl rfl fun r31 => ?_; refine At.v rfl rfl rfl rfl rfl trivial ?_; refine At.st 0 rfl rfl rfl rfl rfl rfl rfl rfl rfl rfl rfl rfl ?_; (iterate 2 refine At.v rfl rfl rfl rfl rfl trivial ?_); refine At.regionEnd (At.seq (At.region ?_)); refine At.ld 3 rfl rfl rfl rfl rfl rfl rfl rfl rfl ?_; (iterate 2 refine At.v rfl rfl rfl rfl rfl trivial ?_); refine At.v rfl rfl rfl rfl rfl (by omega) ?_
      clear stop29
      refine At.cl rfl rfl rfl rfl rfl rfl rfl rfl (p29 _ hg.a r2.a hrm.a) ?_
      rintro _ _ ⟨sf3, ⟨a3, cap3, rfl, hsl3⟩, rfl⟩
      refine At.back ?_
      obtain ⟨_, r3, _⟩ := hsl3.rd
      have stop51 := trivial
      (iterate 5 refine At.v rfl rfl rfl rfl rfl trivial ?_); refine At.regionEnd (At.seq (At.region ?_)); refine At.ld 8 rfl rfl rfl rfl rfl rfl rfl rfl rfl ?_; refine At.cl rfl rfl rfl rfl rfl rfl rfl rfl (q51 _ hO.a) ?_
      rintro _ _ ⟨sf4, ⟨a4, cap4, rfl, hsl4⟩, rfl⟩
      refine At.back ?_; (iterate 5 refine At.v rfl rfl rfl rfl rfl trivial ?_); refine At.regionEnd (At.seq (At.region ?_)); refine At.ld 3 rfl rfl rfl rfl rfl rfl rfl rfl rfl ?_
      clear stop51
      refine At.cl rfl rfl rfl rfl rfl rfl rfl rfl (p51 _ hg.a r2.a hrm.a) ?_
      rintro _ _ ⟨sf5, ⟨a5, cap5, rfl, hsl5⟩, rfl⟩
      refine At.back ?_
      have q31 := fun H_ (g1_ : Rd H_ a1 (hl.flatMap c1)) (g2_ : Rd H_ a3 (hl.flatMap c1)) => s31 L H_ (a := a1) (a' := a3) (n := hl.length) (n' := hl.length) (cap := cap1) (cap' := cap3) (xs := hl) (ys := hl) rfl rfl g1_ g2_ (by omega)
      rw [show decide (hl = hl) = true by simp] at q31
      (iterate 5 refine At.v rfl rfl rfl rfl rfl trivial ?_); refine At.regionEnd (At.seq (At.region ?_)); refine At.v rfl rfl rfl rfl rfl trivial ?_; refine At.cp rfl rfl rfl rfl rfl fun b166 h166 => ?_; refine At.v rfl rfl rfl rfl rfl trivial ?_
      obtain rfl : b166 = false := h166.symm.trans (by kernel_rfl)
      refine At.v rfl rfl rfl rfl rfl trivial ?_; refine At.cp rfl rfl rfl rfl rfl fun b169 h169 => ?_; (iterate 2 refine At.v rfl rfl rfl rfl rfl trivial ?_)
      obtain rfl : b169 = false := h169.symm.trans (by kernel_rfl)
      refine At.v rfl rfl rfl rfl rfl trivial ?_; refine At.cp rfl rfl rfl rfl rfl fun b173 h173 => ?_; (iterate 2 refine At.v rfl rfl rfl rfl rfl trivial ?_)
      obtain rfl : b173 = false := h173.symm.trans (by kernel_rfl)
      refine At.v rfl rfl rfl rfl rfl trivial ?_; refine At.cp rfl rfl rfl rfl rfl fun b177 h177 => ?_; (iterate 2 refine At.v rfl rfl rfl rfl rfl trivial ?_)
      obtain rfl : b177 = false := h177.symm.trans (by kernel_rfl)
      refine At.v rfl rfl rfl rfl rfl trivial ?_; refine At.cp rfl rfl rfl rfl rfl fun b181 h181 => ?_; (iterate 2 refine At.v rfl rfl rfl rfl rfl trivial ?_)
      obtain rfl : b181 = false := h181.symm.trans (by kernel_rfl)
      refine At.ld 2 rfl rfl rfl rfl rfl rfl rfl rfl rfl ?_; refine At.ld 6 rfl rfl rfl rfl rfl rfl rfl rfl rfl ?_; refine At.qb rfl rfl rfl rfl (q_neqS rfl rfl rfl rfl rfl rfl rfl rfl) fun b186 h186 => ?_; (iterate 2 refine At.v rfl rfl rfl rfl rfl trivial ?_)
      obtain rfl : b186 = false := h186.symm.trans (by simp)
      (iterate 2 refine At.v rfl rfl rfl rfl rfl trivial ?_); refine At.qb rfl rfl rfl rfl (q_neqB rfl rfl rfl) fun b191 h191 => ?_; (iterate 2 refine At.v rfl rfl rfl rfl rfl trivial ?_)
      obtain rfl : b191 = false := h191.symm.trans (by simp)
      (iterate 2 refine At.v rfl rfl rfl rfl rfl trivial ?_)
      cases fd
      · have stop31 := trivial
        (iterate 11 refine At.un rfl rfl rfl rfl ?_); (iterate 5 refine At.v rfl rfl rfl rfl rfl trivial ?_); refine At.cp rfl rfl rfl rfl rfl fun b212 h212 => ?_; (iterate 2 refine At.v rfl rfl rfl rfl rfl trivial ?_)
        obtain rfl : b212 = false := h212.symm.trans (by simp)
        refine At.ld 0 rfl rfl rfl rfl rfl rfl rfl rfl rfl ?_; refine At.ld 4 rfl rfl rfl rfl rfl rfl rfl rfl rfl ?_; refine At.qb rfl rfl rfl rfl (q_neqS rfl rfl rfl rfl rfl rfl rfl rfl) fun b217 h217 => ?_; (iterate 2 refine At.v rfl rfl rfl rfl rfl trivial ?_)
        obtain rfl : b217 = false := h217.symm.trans (by simp)
        (iterate 2 refine At.v rfl rfl rfl rfl rfl trivial ?_); refine At.qb rfl rfl rfl rfl (q_neqB rfl rfl rfl) fun b222 h222 => ?_; (iterate 2 refine At.v rfl rfl rfl rfl rfl trivial ?_)
        obtain rfl : b222 = false := h222.symm.trans (by kernel_rfl)
        (iterate 2 refine At.v rfl rfl rfl rfl rfl trivial ?_)
        clear stop31
        refine At.cq rfl rfl rfl rfl rfl rfl rfl rfl (q31 _ r1.a r3.a) ?_; (iterate 4 refine At.v rfl rfl rfl rfl rfl trivial ?_); refine At.ln rfl rfl rfl rfl rfl rfl rfl rfl ?_; refine At.v rfl rfl rfl rfl rfl trivial ?_; refine At.ln rfl rfl rfl rfl rfl rfl rfl rfl ?_; refine At.cp rfl rfl rfl rfl rfl fun b235 h235 => ?_; refine At.v rfl rfl rfl rfl rfl trivial ?_; refine At.regionEnd ?_
        obtain rfl : b235 = false := h235.symm.trans (decide_eq_false (by omega))
        refine At.cond rfl ?_; refine At.skip ?_
        refine At.tA ((key ()))
      · obtain ⟨d1, d2, d3, d4⟩ := hA3 rfl
        have q54 : ∀ H_, Pure L 54 #[rV (g.1 + up * g.2, g.2), rV g] H_ (rV (up, 1)) := fun H_ => by
          have m0 := mul_bd (a := up) (b := g.2) (A := 29) (B := 6000) (by omega) (by omega)
          have m1 := mul_bd (a := g.1 + up * g.2) (b := g.2) (A := 720000) (B := 6000) (by omega) (by omega)
          have m2 := mul_bd (a := g.1) (b := g.2) (A := 540000) (B := 6000) (by omega) (by omega)
          have m3 := mul_bd (a := g.2) (b := g.2) (A := 6000) (B := 6000) (by omega) (by omega)
          have := s54 L H_ (an := g.1 + up * g.2) (ad := g.2) (bn := g.1) (bd := g.2) ⟨by omega, by omega⟩ ⟨by omega, by omega⟩ ⟨by omega, by omega⟩ ⟨by omega, by omega⟩ (Int.mul_ne_zero (by omega) (by omega))
          have e := minus_raise (g := g) (by omega) up
          unfold minusM low at e
          simp only [Prod.mk.injEq] at e
          rw [e.1, e.2] at this
          exact this
        have stop54 := trivial
        refine At.fa 1 rfl rfl rfl rfl rfl rfl rfl ?_; refine At.ld 1 rfl rfl rfl rfl rfl rfl rfl rfl rfl ?_; refine At.cp rfl rfl rfl rfl rfl fun b198 h198 => ?_; refine At.v rfl rfl rfl rfl rfl trivial ?_
        obtain rfl : b198 = false := h198.symm.trans (decide_eq_false (by omega))
        refine At.ld 1 rfl rfl rfl rfl rfl rfl rfl rfl rfl ?_; refine At.ld 5 rfl rfl rfl rfl rfl rfl rfl rfl rfl ?_
        clear stop54
        refine At.cq rfl rfl rfl rfl rfl rfl rfl rfl (q54 _) ?_
        have stop31 := trivial
        refine At.v rfl rfl rfl rfl rfl trivial ?_; refine At.cq rfl rfl rfl rfl rfl rfl rfl rfl (s49 L _) ?_; refine At.qb rfl rfl rfl rfl (q_neqS rfl rfl rfl rfl rfl rfl rfl rfl) fun b205 h205 => ?_; (iterate 4 refine At.v rfl rfl rfl rfl rfl trivial ?_)
        obtain rfl : b205 = false := h205.symm.trans (by simp)
        (iterate 2 refine At.v rfl rfl rfl rfl rfl trivial ?_); refine At.cp rfl rfl rfl rfl rfl fun b212 h212 => ?_; (iterate 2 refine At.v rfl rfl rfl rfl rfl trivial ?_)
        obtain rfl : b212 = false := h212.symm.trans (by simp)
        refine At.ld 0 rfl rfl rfl rfl rfl rfl rfl rfl rfl ?_; refine At.ld 4 rfl rfl rfl rfl rfl rfl rfl rfl rfl ?_; refine At.qb rfl rfl rfl rfl (q_neqS rfl rfl rfl rfl rfl rfl rfl rfl) fun b217 h217 => ?_; (iterate 2 refine At.v rfl rfl rfl rfl rfl trivial ?_)
        obtain rfl : b217 = false := h217.symm.trans (by simp)
        (iterate 2 refine At.v rfl rfl rfl rfl rfl trivial ?_); refine At.qb rfl rfl rfl rfl (q_neqB rfl rfl rfl) fun b222 h222 => ?_; (iterate 2 refine At.v rfl rfl rfl rfl rfl trivial ?_)
        obtain rfl : b222 = false := h222.symm.trans (by kernel_rfl)
        (iterate 2 refine At.v rfl rfl rfl rfl rfl trivial ?_)
        clear stop31
        refine At.cq rfl rfl rfl rfl rfl rfl rfl rfl (q31 _ r1.a r3.a) ?_; (iterate 4 refine At.v rfl rfl rfl rfl rfl trivial ?_); refine At.ln rfl rfl rfl rfl rfl rfl rfl rfl ?_; refine At.v rfl rfl rfl rfl rfl trivial ?_; refine At.ln rfl rfl rfl rfl rfl rfl rfl rfl ?_; refine At.cp rfl rfl rfl rfl rfl fun b235 h235 => ?_; refine At.v rfl rfl rfl rfl rfl trivial ?_; refine At.regionEnd ?_
        obtain rfl : b235 = false := h235.symm.trans (decide_eq_false (by omega))
        refine At.cond rfl ?_; refine At.skip ?_
        refine At.tA ((key ()))
    · have q53 := fun H_ (hB_ : BkR H_ B ⟨pa, pc, ma, mc⟩) => s53 L H_ (n := up) hB_ hz (by omega)
      rw [decide_eq_false hz'] at q53
      have stop53 := trivial
      refine At.seq (At.region ?_); refine At.ld 4 rfl rfl rfl rfl rfl rfl rfl rfl rfl ?_; refine At.v rfl rfl rfl rfl rfl trivial ?_
      clear stop53
      refine At.cl rfl rfl rfl rfl rfl rfl rfl rfl (q53 _ hBk.a) ?_
      rintro _ _ ⟨sf2, ⟨a2, cap2, rfl, hsl2⟩, rfl⟩
      refine At.back ?_; (iterate 3 refine At.v rfl rfl rfl rfl rfl trivial ?_); refine At.al rfl rfl rfl rfl rfl fun r24 => ?_; refine At.st 0 rfl rfl rfl rfl rfl rfl rfl rfl rfl rfl rfl rfl ?_; refine At.v rfl rfl rfl rfl rfl trivial ?_; refine At.regionEnd (At.seq (At.region ?_)); (iterate 2 refine At.v rfl rfl rfl rfl rfl trivial ?_); (iterate 4 refine At.un rfl rfl rfl rfl ?_); refine At.v rfl rfl rfl rfl rfl trivial ?_; refine At.regionEnd ?_; refine At.cond rfl ?_; refine At.skip ?_
      refine At.tA ((key ()))
  rintro ⟨⟩
  refine At.seq ?_; refine At.cutk (X := Unit) [5, 11, 12, 14, 15, 16, 18, 19, 20, 22] (fun _ => []) (fun _ => .own r19 (.cells (List.toArray (c2 pt)) 29 (0, 0)) :: .own r15 (.cells (List.toArray (c2 g)) 29 (0, 0)) :: .own r14 (.cells (List.toArray (c2 f)) 29 (0, 0)) :: .own r12 (.cells (List.toArray (c2 s)) 29 (0, 0)) :: .own r5 (.cells (List.toArray (bkC B ⟨pa, pc, ma, mc⟩)) 27 (0, 0)) :: (sf1 ++ H)) rfl ?_ fun key => ?_
  rotate_left
  · by_cases hz' : bookBar (dblM B) = 0
    · have q55 := fun H_ (hB_ : BkR H_ B ⟨pa, pc, ma, mc⟩) => s55 L H_ hB_ hz
      rw [decide_eq_true hz'] at q55
      have stop55 := trivial
      refine At.seq (At.region ?_); refine At.ld 4 rfl rfl rfl rfl rfl rfl rfl rfl rfl ?_
      clear stop55
      refine At.cl rfl rfl rfl rfl rfl rfl rfl rfl (q55 _ hBk.a) ?_
      rintro _ _ ⟨sf2, ⟨a2, cap2, rfl, hsl2⟩, rfl⟩
      refine At.back ?_
      obtain ⟨_, r2, _⟩ := hsl2.rd
      by_cases heu : 2 * eye ≤ 90
      rotate_left
      · refine At.v rfl rfl rfl rfl rfl trivial ?_
        (iterate 2 refine At.v rfl rfl rfl rfl rfl trivial ?_); refine At.al rfl rfl rfl rfl rfl fun r40 => ?_; refine At.st 0 rfl rfl rfl rfl rfl rfl rfl rfl rfl rfl rfl rfl ?_; refine At.v rfl rfl rfl rfl rfl trivial ?_; refine At.regionEnd (At.seq (At.region ?_)); (iterate 3 refine At.v rfl rfl rfl rfl rfl trivial ?_); refine At.v rfl rfl rfl rfl rfl (by omega) ?_; refine At.cp rfl rfl rfl rfl rfl fun b246 h246 => ?_; refine At.v rfl rfl rfl rfl rfl trivial ?_; refine At.regionEnd ?_
        obtain rfl : b246 = false := h246.symm.trans (decide_eq_false (by omega))
        refine At.cond rfl ?_; refine At.skip ?_
        refine At.tA ((key ()))
      have he2 : EyeOk (2 * eye) := by unfold EyeOk; omega
      have hul : (dblM B).prof.length = B.prof.length := by simp [dblM]
      have hO2 : ∀ H_, Cells H_ 0 0 chkC → Rd H_ a2 ((dblM B).prof.flatMap c2) → Opn H_ (dblM B) ⟨a2, cap2, none, 0⟩ := fun H_ c1_ c2_ => ⟨c1_, ⟨c2_, .inl rfl⟩, by omega, by simp [dblM]⟩
      have e1 : lookBar (dblM B) [hBar (2 * eye)] = 0 := by rw [lookBar1 hz', firstBar1]; exact if_pos he2
      have e2 : lookBar (dblM B) [hBar (2 * eye), slopeBar s.1 s.2] = 0 := by rw [lookBar1 hz', firstBar2, hsb, show hBar (2 * eye) = 0 from if_pos he2]; rfl
      have p25 := fun H_ c1_ c2_ => s25 L H_ (eye := 2 * eye) (s := s) (hO2 H_ c1_ c2_)
      have p27 := fun H_ c1_ c2_ => s27 L H_ (eye := 2 * eye) (s := s) (hO2 H_ c1_ c2_)
      have p29 := fun H_ c1_ c2_ => s29 L H_ (eye := 2 * eye) (hO2 H_ c1_ c2_)
      obtain ⟨F2, G2, hD1, hD2, hD3⟩ := hA6 hz' he2
      have hdh' := hdh hz' he2
      unfold metV at hD1
      simp only [e1, e2, ne_eq, not_true_eq_false, if_false, hD1, hD2, hul, hdh'] at p25 p27 p29
      have stop25 := trivial
      (iterate 3 refine At.v rfl rfl rfl rfl rfl trivial ?_); refine At.al rfl rfl rfl rfl rfl fun r40 => ?_; refine At.st 0 rfl rfl rfl rfl rfl rfl rfl rfl rfl rfl rfl rfl ?_; refine At.v rfl rfl rfl rfl rfl trivial ?_; refine At.regionEnd (At.seq (At.region ?_)); (iterate 3 refine At.v rfl rfl rfl rfl rfl trivial ?_); refine At.v rfl rfl rfl rfl rfl (by omega) ?_; refine At.cp rfl rfl rfl rfl rfl fun b246 h246 => ?_; refine At.v rfl rfl rfl rfl rfl trivial ?_; refine At.regionEnd ?_
      obtain rfl : b246 = true := h246.symm.trans (decide_eq_true (by omega))
      refine At.cond rfl ?_; refine At.seq (At.region ?_); refine At.ld 0 rfl rfl rfl rfl rfl rfl rfl rfl rfl ?_; refine At.v rfl rfl rfl rfl rfl trivial ?_; refine At.v rfl rfl rfl rfl rfl (by omega) ?_; refine At.ld 4 rfl rfl rfl rfl rfl rfl rfl rfl rfl ?_
      clear stop25
      refine At.cq rfl rfl rfl rfl rfl rfl rfl rfl (p25 _ hg.a r2.a) ?_
      have stop27 := trivial
      (iterate 5 refine At.v rfl rfl rfl rfl rfl trivial ?_); refine At.al rfl rfl rfl rfl rfl fun r42 => ?_; refine At.al rfl rfl rfl rfl rfl fun r43 => ?_; refine At.st 1 rfl rfl rfl rfl rfl rfl rfl rfl rfl rfl rfl rfl ?_; refine At.st 0 rfl rfl rfl rfl rfl rfl rfl rfl rfl rfl rfl rfl ?_; (iterate 2 refine At.v rfl rfl rfl rfl rfl trivial ?_); refine At.regionEnd (At.seq (At.region ?_)); refine At.ld 2 rfl rfl rfl rfl rfl rfl rfl rfl rfl ?_; refine At.v rfl rfl rfl rfl rfl trivial ?_
      refine At.v rfl rfl rfl rfl rfl (by omega) ?_; refine At.ld 6 rfl rfl rfl rfl rfl rfl rfl rfl rfl ?_
      clear stop27
      refine At.cq rfl rfl rfl rfl rfl rfl rfl rfl (p27 _ hg.a r2.a) ?_
      have stop29 := trivial
      (iterate 5 refine At.v rfl rfl rfl rfl rfl trivial ?_); refine At.al rfl rfl rfl rfl rfl fun r47 => ?_; refine At.v rfl rfl rfl rfl rfl trivial ?_; refine At.st 0 rfl rfl rfl rfl rfl rfl rfl rfl rfl rfl rfl rfl ?_; (iterate 2 refine At.v rfl rfl rfl rfl rfl trivial ?_); refine At.regionEnd (At.seq (At.region ?_)); refine At.ld 3 rfl rfl rfl rfl rfl rfl rfl rfl rfl ?_; refine At.v rfl rfl rfl rfl rfl trivial ?_; refine At.v rfl rfl rfl rfl rfl (by omega) ?_
      clear stop29
      refine At.cl rfl rfl rfl rfl rfl rfl rfl rfl (p29 _ hg.a r2.a) ?_
      rintro _ _ ⟨sf3, ⟨a3, cap3, rfl, hsl3⟩, rfl⟩
      refine At.back ?_
      obtain ⟨_, r3, _⟩ := hsl3.rd
      have q31 := fun H_ (g1_ : Rd H_ a1 (hl.flatMap c1)) (g2_ : Rd H_ a3 (hl.flatMap c1)) => s31 L H_ (a := a1) (a' := a3) (n := hl.length) (n' := hl.length) (cap := cap1) (cap' := cap3) (xs := hl) (ys := hl) rfl rfl g1_ g2_ (by omega)
      rw [show decide (hl = hl) = true by simp] at q31
      cases fd
      · have stop31 := trivial
        (iterate 5 refine At.v rfl rfl rfl rfl rfl trivial ?_); refine At.regionEnd (At.seq ?_); refine At.drawJ hmix [] rfl ?_; refine Pool.v 0 rfl rfl rfl rfl rfl rfl rfl trivial ?_; refine Pool.cp 1 rfl rfl rfl rfl rfl rfl rfl fun b276 h276 => ?_; refine Pool.v 2 rfl rfl rfl rfl rfl rfl rfl trivial ?_
        obtain rfl : b276 = false := h276.symm.trans (by kernel_rfl)
        refine Pool.v 3 rfl rfl rfl rfl rfl rfl rfl trivial ?_; refine Pool.cp 4 rfl rfl rfl rfl rfl rfl rfl fun b279 h279 => ?_; refine Pool.v 5 rfl rfl rfl rfl rfl rfl rfl trivial ?_; refine Pool.v 6 rfl rfl rfl rfl rfl rfl rfl trivial ?_
        obtain rfl : b279 = false := h279.symm.trans (by kernel_rfl)
        refine Pool.v 7 rfl rfl rfl rfl rfl rfl rfl trivial ?_; refine Pool.cp 8 rfl rfl rfl rfl rfl rfl rfl fun b283 h283 => ?_; refine Pool.v 9 rfl rfl rfl rfl rfl rfl rfl trivial ?_; refine Pool.v 10 rfl rfl rfl rfl rfl rfl rfl trivial ?_
        obtain rfl : b283 = false := h283.symm.trans (by kernel_rfl)
        refine Pool.v 11 rfl rfl rfl rfl rfl rfl rfl trivial ?_; refine Pool.v 12 rfl rfl rfl rfl rfl rfl rfl trivial ?_; refine Pool.qb 13 rfl rfl rfl rfl rfl (q_neqB rfl rfl rfl) rfl fun b288 h288 => ?_; refine Pool.v 14 rfl rfl rfl rfl rfl rfl rfl trivial ?_; refine Pool.v 15 rfl rfl rfl rfl rfl rfl rfl trivial ?_
        obtain rfl : b288 = false := h288.symm.trans (by kernel_rfl)
        refine Pool.v 16 rfl rfl rfl rfl rfl rfl rfl trivial ?_; refine Pool.v 17 rfl rfl rfl rfl rfl rfl rfl trivial ?_; refine Pool.un 18 rfl rfl rfl rfl rfl rfl ?_; refine Pool.un 19 rfl rfl rfl rfl rfl rfl ?_; refine Pool.un 20 rfl rfl rfl rfl rfl rfl ?_; refine Pool.un 21 rfl rfl rfl rfl rfl rfl ?_; refine Pool.un 22 rfl rfl rfl rfl rfl rfl ?_; refine Pool.un 23 rfl rfl rfl rfl rfl rfl ?_; refine Pool.un 24 rfl rfl rfl rfl rfl rfl ?_; refine Pool.un 25 rfl rfl rfl rfl rfl rfl ?_
        refine Pool.un 26 rfl rfl rfl rfl rfl rfl ?_; refine Pool.un 27 rfl rfl rfl rfl rfl rfl ?_; refine Pool.un 28 rfl rfl rfl rfl rfl rfl ?_; refine Pool.un 29 rfl rfl rfl rfl rfl rfl ?_; refine Pool.un 30 rfl rfl rfl rfl rfl rfl ?_; refine Pool.un 31 rfl rfl rfl rfl rfl rfl ?_; refine Pool.un 32 rfl rfl rfl rfl rfl rfl ?_; refine Pool.un 33 rfl rfl rfl rfl rfl rfl ?_; refine Pool.un 34 rfl rfl rfl rfl rfl rfl ?_; refine Pool.un 35 rfl rfl rfl rfl rfl rfl ?_
        refine Pool.v 36 rfl rfl rfl rfl rfl rfl rfl trivial ?_; refine Pool.v 37 rfl rfl rfl rfl rfl rfl rfl trivial ?_; refine Pool.v 38 rfl rfl rfl rfl rfl rfl rfl trivial ?_; refine Pool.v 39 rfl rfl rfl rfl rfl rfl rfl trivial ?_; refine Pool.v 40 rfl rfl rfl rfl rfl rfl rfl trivial ?_; refine Pool.cp 41 rfl rfl rfl rfl rfl rfl rfl fun b316 h316 => ?_; refine Pool.v 42 rfl rfl rfl rfl rfl rfl rfl trivial ?_; refine Pool.v 43 rfl rfl rfl rfl rfl rfl rfl trivial ?_
        obtain rfl : b316 = false := h316.symm.trans (by simp)
        refine Pool.ld 0 44 rfl rfl rfl rfl rfl rfl rfl rfl rfl rfl rfl ?_; refine Pool.ld 4 45 rfl rfl rfl rfl rfl rfl rfl rfl rfl rfl rfl ?_; refine Pool.qb 46 rfl rfl rfl rfl rfl (q_neqS rfl rfl rfl rfl rfl rfl rfl rfl) rfl fun b321 h321 => ?_; refine Pool.v 47 rfl rfl rfl rfl rfl rfl rfl trivial ?_; refine Pool.v 48 rfl rfl rfl rfl rfl rfl rfl trivial ?_
        obtain rfl : b321 = false := h321.symm.trans (by simp)
        refine Pool.v 49 rfl rfl rfl rfl rfl rfl rfl trivial ?_; refine Pool.v 50 rfl rfl rfl rfl rfl rfl rfl trivial ?_; refine Pool.qb 51 rfl rfl rfl rfl rfl (q_neqB rfl rfl rfl) rfl fun b326 h326 => ?_; refine Pool.v 52 rfl rfl rfl rfl rfl rfl rfl trivial ?_; refine Pool.v 53 rfl rfl rfl rfl rfl rfl rfl trivial ?_
        obtain rfl : b326 = false := h326.symm.trans (by kernel_rfl)
        refine Pool.v 54 rfl rfl rfl rfl rfl rfl rfl trivial ?_; refine Pool.v 55 rfl rfl rfl rfl rfl rfl rfl trivial ?_
        clear stop31
        refine Pool.cq 56 rfl rfl rfl rfl rfl rfl rfl rfl rfl (fun H_ hs_ => q31 H_ r1.a r3.a) ?_; refine Pool.v 57 rfl rfl rfl rfl rfl rfl rfl trivial ?_; refine Pool.v 58 rfl rfl rfl rfl rfl rfl rfl trivial ?_; refine pool_done rfl rfl ?_; refine At.regionEnd ?_; refine At.cond rfl ?_; refine At.skip ?_
        refine At.tA ((key ()))
      · obtain ⟨d1, d2, d3, d4⟩ := hA3 rfl
        obtain ⟨rfl, rfl⟩ := hD3 rfl
        have q46 := fun H_ => s46 L H_ (n := 2 * f.1) (d := f.2) (by omega) ⟨by omega, by omega⟩ ⟨by omega, by omega⟩
        have p46 := fun H_ => s46 L H_ (n := 2 * g.1) (d := g.2) (by omega) ⟨by omega, by omega⟩ ⟨by omega, by omega⟩
        have e3 : Value.agg #[.int .i64 (lowN (2 * f.1) f.2), .int .i64 (lowD (2 * f.1) f.2)] = rV (dblR f) := rfl
        have e4 : Value.agg #[.int .i64 (lowN (2 * g.1) g.2), .int .i64 (lowD (2 * g.1) g.2)] = rV (dblR g) := rfl
        rw [e3] at q46
        rw [e4] at p46
        obtain ⟨⟨x1, x2⟩, hx⟩ : ∃ y, dblR f = y := ⟨_, rfl⟩
        obtain ⟨⟨y1, y2⟩, hy⟩ : ∃ y, dblR g = y := ⟨_, rfl⟩
        rw [hx] at q46 ⊢
        rw [hy] at p46 ⊢
        have stop46 := trivial
        (iterate 5 refine At.v rfl rfl rfl rfl rfl trivial ?_); refine At.regionEnd (At.seq ?_); refine At.drawJ hmix [] rfl ?_; refine Pool.v 0 rfl rfl rfl rfl rfl rfl rfl trivial ?_; refine Pool.cp 1 rfl rfl rfl rfl rfl rfl rfl fun b276 h276 => ?_; refine Pool.v 2 rfl rfl rfl rfl rfl rfl rfl trivial ?_
        obtain rfl : b276 = false := h276.symm.trans (by kernel_rfl)
        refine Pool.v 3 rfl rfl rfl rfl rfl rfl rfl trivial ?_; refine Pool.cp 4 rfl rfl rfl rfl rfl rfl rfl fun b279 h279 => ?_; refine Pool.v 5 rfl rfl rfl rfl rfl rfl rfl trivial ?_; refine Pool.v 6 rfl rfl rfl rfl rfl rfl rfl trivial ?_
        obtain rfl : b279 = false := h279.symm.trans (by kernel_rfl)
        refine Pool.v 7 rfl rfl rfl rfl rfl rfl rfl trivial ?_; refine Pool.cp 8 rfl rfl rfl rfl rfl rfl rfl fun b283 h283 => ?_; refine Pool.v 9 rfl rfl rfl rfl rfl rfl rfl trivial ?_; refine Pool.v 10 rfl rfl rfl rfl rfl rfl rfl trivial ?_
        obtain rfl : b283 = false := h283.symm.trans (by kernel_rfl)
        refine Pool.v 11 rfl rfl rfl rfl rfl rfl rfl trivial ?_; refine Pool.v 12 rfl rfl rfl rfl rfl rfl rfl trivial ?_; refine Pool.qb 13 rfl rfl rfl rfl rfl (q_neqB rfl rfl rfl) rfl fun b288 h288 => ?_; refine Pool.v 14 rfl rfl rfl rfl rfl rfl rfl trivial ?_; refine Pool.v 15 rfl rfl rfl rfl rfl rfl rfl trivial ?_
        obtain rfl : b288 = false := h288.symm.trans (by kernel_rfl)
        refine Pool.v 16 rfl rfl rfl rfl rfl rfl rfl trivial ?_; refine Pool.v 17 rfl rfl rfl rfl rfl rfl rfl trivial ?_; refine Pool.ld 2 18 rfl rfl rfl rfl rfl rfl rfl rfl rfl rfl rfl ?_; refine Pool.fa 0 19 rfl rfl rfl rfl rfl rfl rfl rfl rfl ?_; refine Pool.ld 6 20 rfl rfl rfl rfl rfl rfl rfl rfl rfl rfl rfl ?_; refine Pool.v 21 rfl rfl rfl rfl rfl rfl rfl (by omega) ?_; refine Pool.fa 1 22 rfl rfl rfl rfl rfl rfl rfl rfl rfl ?_; refine Pool.ld 6 23 rfl rfl rfl rfl rfl rfl rfl rfl rfl rfl rfl ?_
        refine Pool.cq 24 rfl rfl rfl rfl rfl rfl rfl rfl rfl (fun H_ hs_ => q46 H_) ?_; refine Pool.qb 25 rfl rfl rfl rfl rfl (q_neqS rfl rfl rfl rfl rfl rfl rfl rfl) rfl fun b300 h300 => ?_; refine Pool.v 26 rfl rfl rfl rfl rfl rfl rfl trivial ?_
        obtain rfl : b300 = false := h300.symm.trans (by simp)
        refine Pool.ld 1 27 rfl rfl rfl rfl rfl rfl rfl rfl rfl rfl rfl ?_; refine Pool.fa 0 28 rfl rfl rfl rfl rfl rfl rfl rfl rfl ?_; refine Pool.ld 5 29 rfl rfl rfl rfl rfl rfl rfl rfl rfl rfl rfl ?_; refine Pool.v 30 rfl rfl rfl rfl rfl rfl rfl (by omega) ?_; refine Pool.fa 1 31 rfl rfl rfl rfl rfl rfl rfl rfl rfl ?_; refine Pool.ld 5 32 rfl rfl rfl rfl rfl rfl rfl rfl rfl rfl rfl ?_
        clear stop46
        refine Pool.cq 33 rfl rfl rfl rfl rfl rfl rfl rfl rfl (fun H_ hs_ => p46 H_) ?_
        have stop31 := trivial
        refine Pool.qb 34 rfl rfl rfl rfl rfl (q_neqS rfl rfl rfl rfl rfl rfl rfl rfl) rfl fun b309 h309 => ?_; refine Pool.v 35 rfl rfl rfl rfl rfl rfl rfl trivial ?_; refine Pool.v 36 rfl rfl rfl rfl rfl rfl rfl trivial ?_; refine Pool.v 37 rfl rfl rfl rfl rfl rfl rfl trivial ?_; refine Pool.v 38 rfl rfl rfl rfl rfl rfl rfl trivial ?_
        obtain rfl : b309 = false := h309.symm.trans (by simp)
        refine Pool.v 39 rfl rfl rfl rfl rfl rfl rfl trivial ?_; refine Pool.v 40 rfl rfl rfl rfl rfl rfl rfl trivial ?_; refine Pool.cp 41 rfl rfl rfl rfl rfl rfl rfl fun b316 h316 => ?_; refine Pool.v 42 rfl rfl rfl rfl rfl rfl rfl trivial ?_; refine Pool.v 43 rfl rfl rfl rfl rfl rfl rfl trivial ?_
        obtain rfl : b316 = false := h316.symm.trans (by simp)
        refine Pool.ld 0 44 rfl rfl rfl rfl rfl rfl rfl rfl rfl rfl rfl ?_; refine Pool.ld 4 45 rfl rfl rfl rfl rfl rfl rfl rfl rfl rfl rfl ?_; refine Pool.qb 46 rfl rfl rfl rfl rfl (q_neqS rfl rfl rfl rfl rfl rfl rfl rfl) rfl fun b321 h321 => ?_; refine Pool.v 47 rfl rfl rfl rfl rfl rfl rfl trivial ?_; refine Pool.v 48 rfl rfl rfl rfl rfl rfl rfl trivial ?_
        obtain rfl : b321 = false := h321.symm.trans (by simp)
        refine Pool.v 49 rfl rfl rfl rfl rfl rfl rfl trivial ?_; refine Pool.v 50 rfl rfl rfl rfl rfl rfl rfl trivial ?_; refine Pool.qb 51 rfl rfl rfl rfl rfl (q_neqB rfl rfl rfl) rfl fun b326 h326 => ?_; refine Pool.v 52 rfl rfl rfl rfl rfl rfl rfl trivial ?_; refine Pool.v 53 rfl rfl rfl rfl rfl rfl rfl trivial ?_
        obtain rfl : b326 = false := h326.symm.trans (by kernel_rfl)
        refine Pool.v 54 rfl rfl rfl rfl rfl rfl rfl trivial ?_; refine Pool.v 55 rfl rfl rfl rfl rfl rfl rfl trivial ?_
        clear stop31
        refine Pool.cq 56 rfl rfl rfl rfl rfl rfl rfl rfl rfl (fun H_ hs_ => q31 H_ r1.a r3.a) ?_; refine Pool.v 57 rfl rfl rfl rfl rfl rfl rfl trivial ?_; refine Pool.v 58 rfl rfl rfl rfl rfl rfl rfl trivial ?_; refine pool_done rfl rfl ?_; refine At.regionEnd ?_; refine At.cond rfl ?_; refine At.skip ?_
        refine At.tA ((key ()))
    · have q55 := fun H_ (hB_ : BkR H_ B ⟨pa, pc, ma, mc⟩) => s55 L H_ hB_ hz
      rw [decide_eq_false hz'] at q55
      have stop55 := trivial
      refine At.seq (At.region ?_); refine At.ld 4 rfl rfl rfl rfl rfl rfl rfl rfl rfl ?_
      clear stop55
      refine At.cl rfl rfl rfl rfl rfl rfl rfl rfl (q55 _ hBk.a) ?_
      rintro _ _ ⟨sf2, ⟨a2, cap2, rfl, hsl2⟩, rfl⟩
      refine At.back ?_; (iterate 3 refine At.v rfl rfl rfl rfl rfl trivial ?_); refine At.al rfl rfl rfl rfl rfl fun r40 => ?_; refine At.st 0 rfl rfl rfl rfl rfl rfl rfl rfl rfl rfl rfl rfl ?_; refine At.v rfl rfl rfl rfl rfl trivial ?_; refine At.regionEnd (At.seq (At.region ?_)); (iterate 2 refine At.v rfl rfl rfl rfl rfl trivial ?_); (iterate 3 refine At.un rfl rfl rfl rfl ?_); refine At.v rfl rfl rfl rfl rfl trivial ?_; refine At.regionEnd ?_; refine At.cond rfl ?_; refine At.skip ?_
      refine At.tA ((key ()))
  rintro ⟨⟩
  refine At.seq (At.region ?_)
  subst hL
  refine At.cq rfl rfl rfl rfl rfl rfl rfl rfl (s22 hG.a) ?_; refine At.v rfl rfl rfl rfl rfl trivial ?_; refine At.regionEnd ?_
  exact hLB Tryz.func8 (.inr ⟨_, rfl⟩) rfl (.tmp rfl .nil) (⟨by rfl, rfl⟩)
end Go.Gx
end

section
set_option linter.unusedSimpArgs false
set_option linter.unusedVariables false
namespace Go.Gx
open Go Go.Conc Go.Proofs Go.ChangeShapes Go.RowKit YtokdmiiejfmomaaGreatDoor
set_option maxRecDepth 100000
theorem ip8 : Tryz.prog.inPlace 8 = [] := by kernel_rfl
theorem uf8 : Tryz.prog.unfollowed 8 = true := by kernel_rfl
theorem rc8 : Tryz.prog.recurses 8 = true := by kernel_rfl
theorem vn8 : Tryz.prog.varsNamed 8 = ["velarium/canvas.checks"] := by kernel_rfl
theorem closed8 : joinedFacts Tryz.prog 8 Tryz.f8 Rows.canvasAlikeSpec Rows.canvasAlikeRow = true := by
  unfold joinedFacts
  rewrite [ip8, uf8, rc8, vn8, enter1, lf1, make1]
  kernel_rfl
theorem fnm8 : Tryz.prog.funcNamed "velarium/velariumlaw02.CanvasAlike" = some 8 := by kernel_rfl
theorem inst8 : Tryz.f8.isInstance Tryz.prog Rows.canvasAlikeRow.origin Rows.canvasAlikeRow.targs := of_decide_eq_true (by kernel_rfl)
theorem wrap8 : Tryz.f8.isWrapper Tryz.prog Rows.canvasAlikeRow.wrapper Rows.canvasAlikeRow.mainSum := by unfold Func.isWrapper; first | (rw [if_pos (by decide +kernel)]; kernel_rfl) | (rw [if_neg (by decide +kernel)]; exact ⟨rfl, rfl⟩)
theorem goes8 : Tryz.prog.goes 8 = true := by kernel_rfl
theorem wbt8 : Rows.canvasAlikeRow.wfByText (OpenSpec.ofChange Rows.canvasAlikeSpec) = true := by kernel_rfl
theorem wants8 : (Tryz.f8.params.toList.all fun t => !Tryz.prog.wantsStandIn t) = true := by kernel_rfl
theorem lifted8 (os : Os) (started : os.Started) (H : Type) (enc : TypeId × Value → H) :
    ReturnsInLeavingWide {} Tryz.checked os 8 .any (fun w args => (Rows.canvasAlikeSpec.pre enc Tryz.prog Tryz.f8 [] false w args ∧ laidMetH Tryz.prog laid1 w) ∧ sizedMet enc Tryz.prog Tryz.f8 (OpenSpec.ofChange Rows.canvasAlikeSpec) false w args) (Rows.canvasAlikeSpec.post enc Tryz.prog Tryz.f8 false true false false) := by
  refine law_lift Tryz.func8 (by kernel_rfl) rfl rfl (by kernel_rfl) os started H enc #[.agg #[.slice none 0 0, .int .i64 0, .int .i64 0, .int .i64 0, .slice none 0 0], .int .u8 0, .int .u8 0, .int .u8 0, .int .i8 0]
    (World.shaped_of_RefB (by kernel_rfl) (by kernel_rfl)) (by kernel_rfl) (by kernel_rfl) (by kernel_rfl) ?_
  intro W base args ds ps hval hA
  rw [Tryz.params8] at hval hA
  obtain ⟨v0, vs0, d0, ds0, p0, q0, e0, rfl, rfl, h0, hA⟩ := trodAll_cons hA
  obtain ⟨v1, vs1, d1, ds1, p1, q1, rfl, rfl, rfl, h1, hA⟩ := trodAll_cons hA
  obtain ⟨v2, vs2, d2, ds2, p2, q2, rfl, rfl, rfl, h2, hA⟩ := trodAll_cons hA
  obtain ⟨v3, vs3, d3, ds3, p3, q3, rfl, rfl, rfl, h3, hA⟩ := trodAll_cons hA
  obtain ⟨v4, vs4, d4, ds4, p4, q4, rfl, rfl, rfl, h4, hA⟩ := trodAll_cons hA
  obtain ⟨rfl, rfl, rfl⟩ := trodAll_nil hA
  obtain rfl : args = #[v0, v1, v2, v3, v4] := Array.toList_inj.1 e0
  obtain ⟨B0, A0, Hs0, rfl, hsh0, hb0⟩ := open_book (hval 0 27 _ rfl rfl) h0
  obtain ⟨n1, rfl, rfl, rfl, w1⟩ := open_int Tryz.underlying5 (hval 1 5 _ rfl rfl) h1
  obtain ⟨n2, rfl, rfl, rfl, w2⟩ := open_int Tryz.underlying5 (hval 2 5 _ rfl rfl) h2
  obtain ⟨n3, rfl, rfl, rfl, w3⟩ := open_int Tryz.underlying5 (hval 3 5 _ rfl rfl) h3
  obtain ⟨n4, rfl, rfl, rfl, w4⟩ := open_int Tryz.underlying53 (hval 4 53 _ rfl rfl) h4
  exact ⟨rfl, Hs0, hsh0, fun Post => law8 hsh0.glo hsh0.ro (hb0.a (Sub.append_left _ _)) (wf_u8 w1) (wf_u8 w2) (wf_u8 w3) (wf_i8 w4)⟩
theorem said8 : Rows.CanvasAlikeSaid :=
  OpenClaim.holds_of_wide_leaving 8 Tryz.f8 rfl rfl rfl rfl rfl rfl rfl ⟨rfl, rfl, rfl, rfl, rfl⟩ rfl rfl rfl rfl rfl fnm8 Tryz.func8 closed8 inst8 wrap8
    (fun os started H enc _ => lifted8 os started H enc)
theorem card8 : Rows.CanvasAlikeCardSaid :=
  ⟨Claim7.tied_new_at .later [.funcs] true (Claim7.new_of_sixth said8 (true, "2aeeda9e0b315eb022070bc88bc80a554dcd329f773ad53586088327a2b29430") false rfl ⟨rfl, rfl⟩ mi1 rfl
    (fun f fn hf hfn => by
      obtain rfl : f = 8 := Option.some.inj (hf.symm.trans fnm8)
      obtain rfl : fn = Tryz.f8 := Option.some.inj (hfn.symm.trans Tryz.func8)
      exact ⟨looks1.symm, wants_of wants8⟩)) wbt8, (fun _ h => by cases h), canvasAlike_row_tie, (fun h => by cases h), goes_of fnm8 goes8⟩
end Go.Gx
namespace Go.Proofs.YtokdmiiejfmomaaGreatDoor
/-- THE CARD OF CanvasAlike. -/
theorem canvasAlike_card : Rows.CanvasAlikeCardSaid := Go.Gx.card8
#print axioms canvasAlike_card
end Go.Proofs.YtokdmiiejfmomaaGreatDoor
end
