/-
  No point of the profile that is on the line is nearer than the one that is met; the line to a point that is not hidden meets the canvas there, that to one that is hidden is crossed by a piece that is nearer: CanvasNearest holds.
-/
import Derived.Test.YtokdmiiejfmomaaGreatDoorW6
import Derived.SevenTiedAt
section
set_option linter.unusedSimpArgs false
set_option linter.unusedVariables false
namespace Go.Gx
open Go Go.Conc Go.Proofs Go.ChangeShapes Go.RowKit YtokdmiiejfmomaaGreatDoor
set_option maxRecDepth 100000
theorem Shr.ro {W : World} {Hs : Facts} (h : Shr W Hs) : ∀ f ∈ ([.seg 0 0 chkC] ++ Hs : Facts), f.isOwn = false := by
  intro f hf
  rcases List.mem_append.1 hf with hf | hf
  · rw [List.mem_singleton] at hf; subst hf; rfl
  · exact (h f hf).1
section
variable {H : Type} {enc : TypeId × Value → H} {W : World} {sp : Nat → Bool} {held : Bool}

end
end Go.Gx
end

section
set_option linter.unusedSimpArgs false
set_option linter.unusedVariables false
namespace Go.Gx
open Go Go.Conc Go.Proofs

instance : BoI Tryz.prog 4 := ⟨by kernel_rfl⟩
theorem low_slope {n d : Int} (h1 : -20 ≤ n ∧ n ≤ 20) (h2 : 1 ≤ d ∧ d ≤ 20) : slopeBar (low n d).1 (low n d).2 = 0 := by
  have key : ∀ a ∈ (List.range 41), ∀ b ∈ (List.range 20), slopeBar (low ((a : Int) - 20) ((b : Int) + 1)).1 (low ((a : Int) - 20) ((b : Int) + 1)).2 = 0 := by decide +kernel
  have := key (n + 20).toNat (by rw [List.mem_range]; omega) (d - 1).toNat (by rw [List.mem_range]; omega)
  rwa [show (((n + 20).toNat : Nat) : Int) - 20 = n by omega, show (((d - 1).toNat : Nat) : Int) + 1 = d by omega] at this
end Go.Gx
end

section
set_option linter.unusedSimpArgs false
set_option linter.unusedVariables false
namespace Go.Gx
open Go Go.Conc Go.Proofs
variable {main : Bool}

/-! ### the reference's piece and point that is met, and that they are the program's -/
theorem low_one (n : Int) : low n 1 = (n, 1) := by
  have := low_mul (e := n) (d := 1) (by decide)
  rwa [Int.mul_one] at this
theorem low_neg {n d : Int} (hd : d ≠ 0) : low (-n) (-d) = low n d := by
  unfold low lowN lowD
  rw [Int.neg_gcd, Int.gcd_neg]
  by_cases h : d < 0
  · rw [if_pos h, if_pos h, if_neg (by omega), if_neg (by omega)]
  · rw [if_neg h, if_neg h, if_pos (by omega), if_pos (by omega), Int.neg_neg, Int.neg_neg]
theorem pairs_ok {ps : List R2} (hp : ∀ p ∈ ps, PtOk p) (hpw : ps.Pairwise (fun p q => p.2 < q.2)) : ∀ x ∈ ps.zip ps.tail, PtOk x.1 ∧ PtOk x.2 ∧ x.1.2 < x.2.2 := by
  rintro ⟨p, q⟩ hx
  refine ⟨hp _ (List.of_mem_zip hx).1, hp _ (List.mem_of_mem_tail (List.of_mem_zip hx).2), ?_⟩
  obtain ⟨i, hi, e⟩ := List.getElem_of_mem hx
  simp only [List.getElem_zip, List.getElem_tail, Prod.mk.injEq] at e
  obtain ⟨rfl, rfl⟩ := e
  simp at hi
  exact List.pairwise_iff_getElem.1 hpw i (i + 1) (by omega) (by omega) (by omega)
end Go.Gx
end

section
set_option linter.unusedSimpArgs false
set_option linter.unusedVariables false
namespace Go.Gx
open Go Go.Conc Go.Proofs
variable {main : Bool}

end Go.Gx
end

section
set_option linter.unusedSimpArgs false
set_option linter.unusedVariables false
namespace Go.Gx
open Go Go.Conc Go.Proofs
variable {main : Bool}

end Go.Gx
end

section
set_option linter.unusedSimpArgs false
set_option linter.unusedVariables false
namespace Go.Gx
open Go Go.Conc Go.Proofs
variable {main : Bool}

end Go.Gx
end

section
set_option linter.unusedSimpArgs false
set_option linter.unusedVariables false
namespace Go.Gx
open Go Go.Conc Go.Proofs
variable {main : Bool}

theorem lessW_irr (a : R2) : lessW a a = false := by simp [lessW]
theorem hid_some {B : Bk} {eye : Int} {p : R2} {x : Spot} (h : meetM B.prof eye (low (p.2 - eye) p.1) = some x) : hidAt B eye p = lessW x.1 (low p.1 1) := by
  unfold hidAt toPt
  rw [h, low_one]
  simp only [Option.getD]
  by_cases hx : x = ((p.1, 1), p.2, 1)
  · subst hx
    simp [lessW_irr]
  · simp [hx]
end Go.Gx
end

section
/-
  LOGIC G: what a call has made is put behind the cells that one knows by their places.
-/
set_option linter.unusedSimpArgs false
set_option linter.unusedVariables false
namespace Go.Gx
open Go Go.Conc
/-- 'Y' is 'sf ++ X' with the own cells that stand first in 'X' ahead of 'sf'. -/
class Back (sf X : Facts) (Y : outParam Facts) : Prop where
  s : Sub Y (sf ++ X)
instance (priority := low) backNil {sf X : Facts} : Back sf X (sf ++ X) := ⟨Sub.refl _⟩
instance backCons {sf X Y : Facts} {r : Nat} {o : Obj} [h : Back sf X Y] : Back sf (.own r o :: X) (.own r o :: Y) :=
  ⟨(Sub.cons _ h.s).trans (Sub.of_perm List.perm_middle.symm)⟩
theorem At.back {P : Program} {main : Bool} {L : Lg P main} {f : FuncId} {ro : Option Nat} {ds : Dz} {cs : List Frame} {n : Nat} {E : Env} {k : List Item} {sf X Y : Facts} [hb : Back sf X Y] (h : At L f ro ds cs n E Y k) : At L f ro ds cs n E (sf ++ X) k :=
  h.weakH hb.s
end Go.Gx
end

section
set_option linter.unusedSimpArgs false
set_option linter.unusedVariables false
namespace Go.Gx
open Go Go.Conc Go.Proofs

end Go.Gx
end

section
set_option linter.unusedSimpArgs false
set_option linter.unusedVariables false
namespace Go.Gx
open Go Go.Conc Go.Proofs
variable {main : Bool}

end Go.Gx
end

section
set_option linter.unusedSimpArgs false
set_option linter.unusedVariables false
namespace Go.Gx
open Go Go.Conc Go.Proofs
variable {main : Bool}

theorem low_cross {n d : Int} (hd : d ≠ 0) : (low n d).1 * d = n * (low n d).2 := by
  unfold low lowN lowD
  have hg : 0 < Int.gcd n d := Int.gcd_pos_of_ne_zero_right n hd
  have h1 : ((Int.gcd n d : Nat) : Int) ∣ n := Int.gcd_dvd_left ..
  have h2 : ((Int.gcd n d : Nat) : Int) ∣ d := Int.gcd_dvd_right ..
  generalize ((Int.gcd n d : Nat) : Int) = g at *
  have hg0 : g ≠ 0 := by rintro rfl; exact hd (Int.zero_dvd.1 h2)
  obtain ⟨a, rfl⟩ := h1
  obtain ⟨b, rfl⟩ := h2
  split
  · rw [← Int.mul_neg, ← Int.mul_neg, Int.mul_tdiv_cancel_left _ hg0, Int.mul_tdiv_cancel_left _ hg0]
    simp only [Int.neg_mul, Int.mul_neg]
    rw [Int.mul_left_comm, Int.mul_assoc]
  · simp only
    rw [Int.mul_tdiv_cancel_left _ hg0, Int.mul_tdiv_cancel_left _ hg0, Int.mul_left_comm, Int.mul_assoc]
end Go.Gx
end

section
set_option linter.unusedSimpArgs false
set_option linter.unusedVariables false
namespace Go.Gx
open Go Go.Conc Go.Proofs

end Go.Gx
end

section
set_option linter.unusedSimpArgs false
set_option linter.unusedVariables false
namespace Go.Gx
open Go Go.Conc Go.Proofs
variable {main : Bool}

end Go.Gx
end

section
set_option linter.unusedSimpArgs false
set_option linter.unusedVariables false
namespace Go.Gx
open Go Go.Conc Go.Proofs
variable {main : Bool}

/-! ### where a line meets the canvas, and in which row -/
theorem low_den_pos {n d : Int} (hd : d ≠ 0) : 1 ≤ (low n d).2 := lowD_pos hd
theorem frac_le {n d a : Int} (hd : d ≠ 0) (h : 0 < d ∧ a * d ≤ n ∨ d < 0 ∧ n ≤ a * d) : a * (low n d).2 ≤ (low n d).1 := by
  have hc := low_cross (n := n) hd
  have hp := low_den_pos (n := n) hd
  generalize (low n d).1 = x at *
  generalize (low n d).2 = y at *
  have hy : 0 ≤ y := by omega
  have e : a * y * d = a * d * y := Int.mul_right_comm ..
  rcases h with ⟨h0, h⟩ | ⟨h0, h⟩
  · have := Int.mul_le_mul_of_nonneg_right h hy
    rw [← hc, ← e] at this
    exact Int.le_of_mul_le_mul_right this h0
  · have := Int.mul_le_mul_of_nonneg_right h hy
    rw [← hc, ← e] at this
    have h3 : a * y * -d ≤ x * -d := by rw [Int.mul_neg, Int.mul_neg]; omega
    exact Int.le_of_mul_le_mul_right h3 (by omega)
theorem le_frac {n d a : Int} (hd : d ≠ 0) (h : 0 < d ∧ n ≤ a * d ∨ d < 0 ∧ a * d ≤ n) : (low n d).1 ≤ a * (low n d).2 := by
  have hc := low_cross (n := n) hd
  have hp := low_den_pos (n := n) hd
  generalize (low n d).1 = x at *
  generalize (low n d).2 = y at *
  have hy : 0 ≤ y := by omega
  have e : a * y * d = a * d * y := Int.mul_right_comm ..
  rcases h with ⟨h0, h⟩ | ⟨h0, h⟩
  · have := Int.mul_le_mul_of_nonneg_right h hy
    rw [← hc, ← e] at this
    exact Int.le_of_mul_le_mul_right this h0
  · have := Int.mul_le_mul_of_nonneg_right h hy
    rw [← hc, ← e] at this
    have h3 : x * -d ≤ a * y * -d := by rw [Int.mul_neg, Int.mul_neg]; omega
    exact Int.le_of_mul_le_mul_right h3 (by omega)
/-- A point of a piece is between its ends. -/
theorem cross_high {p q : R2} {eye : Int} {s : R2} (hpq : p.2 < q.2) : ∀ x ∈ crossM p q eye s, p.2 * x.2.2 ≤ x.2.1 ∧ x.2.1 ≤ q.2 * x.2.2 := by
  intro x hx
  unfold crossM at hx
  rw [if_neg (by rintro rfl; omega)] at hx
  generalize ha : offL p eye s = a at hx
  generalize hb : offL q eye s = b at hx
  split at hx
  · simp only [List.mem_cons, List.not_mem_nil, or_false] at hx
    rcases hx with rfl | rfl <;> simp only <;> omega
  rename_i h0
  split at hx
  · rename_i hc
    rw [List.mem_singleton] at hx
    subst hx
    simp only
    have hd : a - b ≠ 0 := by omega
    have hpos : 0 < q.2 - p.2 := by omega
    have e1 : p.2 * (a - b) + (q.2 - p.2) * a - q.2 * (a - b) = (q.2 - p.2) * b := by
      rw [Int.sub_mul, Int.sub_mul, Int.mul_sub, Int.mul_sub]
      omega
    refine ⟨frac_le hd ?_, le_frac hd ?_⟩
    · rcases hc with hc | hc
      · refine .inr ⟨by omega, ?_⟩
        have := Int.mul_le_mul_of_nonneg_left hc.1 (Int.le_of_lt hpos)
        rw [Int.mul_zero] at this
        omega
      · refine .inl ⟨by omega, ?_⟩
        have := Int.mul_le_mul_of_nonneg_left hc.1 (Int.le_of_lt hpos)
        rw [Int.mul_zero] at this
        omega
    · rcases hc with hc | hc
      · refine .inr ⟨by omega, ?_⟩
        have := Int.mul_le_mul_of_nonneg_left hc.2 (Int.le_of_lt hpos)
        rw [Int.mul_zero] at this
        omega
      · refine .inl ⟨by omega, ?_⟩
        have := Int.mul_le_mul_of_nonneg_left hc.2 (Int.le_of_lt hpos)
        rw [Int.mul_zero] at this
        omega
  · cases hx
theorem meet_mem {ps : List R2} {eye : Int} {s : R2} {x : Spot} (h : meetM ps eye s = some x) : ∃ p q, (p, q) ∈ ps.zip ps.tail ∧ x ∈ crossM p q eye s := by
  have hx : x ∈ piecesM ps eye s := by
    unfold meetM at h
    split at h
    · cases h
    · rename_i y l e
      cases h
      rw [e]
      exact bestM_mem _ _ _
  unfold piecesM at hx
  obtain ⟨⟨p, q⟩, hpq, hx⟩ := List.mem_flatMap.1 hx
  exact ⟨p, q, hpq, hx⟩
theorem foot_le {B : Bk} (hz : bookBar B = 0) : ∀ p ∈ B.prof, footM B ≤ p.2 := by
  have hpw := prof_pw hz
  have h2 := (bounds_of_bar hz).1
  unfold footM
  cases hB : B.prof with
  | nil => simp
  | cons p0 ps =>
    rw [hB] at hpw
    intro p hp
    rcases List.mem_cons.1 hp with rfl | hp
    · exact Int.le_refl _
    · exact Int.le_of_lt ((List.pairwise_cons.1 hpw).1 p hp)
theorem foot_pos {B : Bk} (hz : bookBar B = 0) : 0 ≤ footM B := by
  have h2 := (bounds_of_bar hz).1
  have hp := (bounds_of_bar hz).2.2.1
  unfold footM
  cases hB : B.prof with
  | nil => rw [hB] at h2; simp at h2
  | cons p0 ps =>
    have := hp p0 (by rw [hB]; exact List.mem_cons_self ..)
    unfold PtOk at this
    simp only [List.headD_cons]
    omega
/-- How high a line meets the canvas. -/
theorem meet_high {B : Bk} (hz : bookBar B = 0) {eye : Int} {s : R2} {x : Spot} (h : meetM B.prof eye s = some x) : footM B * x.2.2 ≤ x.2.1 ∧ x.2.1 ≤ 90 * x.2.2 ∧ 1 ≤ x.2.2 ∨ x.2.2 ≤ 0 := by
  obtain ⟨p, q, hpq, hx⟩ := meet_mem h
  obtain ⟨hp, hq, hlt⟩ := pairs_ok (bounds_of_bar hz).2.2.1 (prof_pw hz) _ hpq
  obtain ⟨h1, h2⟩ := cross_high hlt x hx
  simp only at h1 h2
  by_cases h0 : 1 ≤ x.2.2
  · left
    have hf := foot_le hz p (List.of_mem_zip hpq).1
    simp only at hp hq hlt
    unfold PtOk at hp hq
    have a1 := Int.mul_le_mul_of_nonneg_right hf (show 0 ≤ x.2.2 by omega)
    have a2 := Int.mul_le_mul_of_nonneg_right (show q.2 ≤ 90 by omega) (show 0 ≤ x.2.2 by omega)
    omega
  · right; omega
/-- The row of what is met is a row. -/
theorem row_ok {B : Bk} (hz : bookBar B = 0) {eye : Int} {s : R2} (he : EyeOk eye) (hs : SlOk s) : rowM B eye s = -1 ∨ 0 ≤ rowM B eye s ∧ rowM B eye s ≤ 90 := by
  cases hm : meetM B.prof eye s with
  | none => left; exact rowM_none hm
  | some x =>
    right
    rw [rowM_some hm]
    have hok := meetM_ok (bounds_of_bar hz).2.2.1 he hs hm
    have hh := meet_high hz hm
    have hb := bounds_of_bar hz
    have hf := foot_pos hz
    obtain ⟨-, -, -, h2⟩ := hok
    unfold squareM
    simp only
    generalize hsz : B.size = z at *
    have hd : 0 < z * x.2.2 := Int.mul_pos (by omega) (by omega)
    have hn : 0 ≤ x.2.1 - footM B * x.2.2 := by omega
    refine ⟨Int.tdiv_nonneg hn (Int.le_of_lt hd), ?_⟩
    have h3 : x.2.1 - footM B * x.2.2 ≤ 90 * (z * x.2.2) := by
      have a1 : 0 ≤ footM B * x.2.2 := Int.mul_nonneg hf (by omega)
      have a2 : 1 * x.2.2 ≤ z * x.2.2 := Int.mul_le_mul_of_nonneg_right (by omega) (by omega)
      omega
    rw [Int.tdiv_eq_ediv_of_nonneg hn]
    have := Int.ediv_le_ediv hd h3
    rwa [Int.mul_ediv_cancel _ (by omega)] at this
theorem row_isSome {B : Bk} (hz : bookBar B = 0) {eye : Int} {s : R2} (he : EyeOk eye) (hs : SlOk s) : (meetM B.prof eye s).isSome = decide (0 ≤ rowM B eye s) := by
  cases hm : meetM B.prof eye s with
  | none => rw [rowM_none hm]; rfl
  | some x =>
    have := row_ok hz he hs
    have h1 : rowM B eye s ≠ -1 ∨ rowM B eye s = -1 := by omega
    rw [rowM_some hm] at *
    have hok := meetM_ok (bounds_of_bar hz).2.2.1 he hs hm
    have hh := meet_high hz hm
    have hb := bounds_of_bar hz
    obtain ⟨-, -, -, h2⟩ := hok
    have hn : 0 ≤ x.2.1 - footM B * x.2.2 := by omega
    have : 0 ≤ (squareM B x.2).1 := Int.tdiv_nonneg hn (Int.mul_nonneg (by omega) (by omega))
    simp [this]
/-! ### the reference's sorting -/
end Go.Gx
end

section
set_option linter.unusedSimpArgs false
set_option linter.unusedVariables false
namespace Go.Gx
open Go Go.Conc Go.Proofs
variable {main : Bool}

end Go.Gx
end

section
set_option linter.unusedSimpArgs false
set_option linter.unusedVariables false
namespace Go.Gx
open Go Go.Conc Go.Proofs
variable {main : Bool}

end Go.Gx
end

section
set_option linter.unusedSimpArgs false
set_option linter.unusedVariables false
namespace Go.Gx
open Go Go.Conc Go.Proofs
variable {main : Bool}

end Go.Gx
end

section
set_option linter.unusedSimpArgs false
set_option linter.unusedVariables false
namespace Go.Gx
open Go Go.Conc Go.Proofs
variable {main : Bool}

end Go.Gx
end

section
set_option linter.unusedSimpArgs false
set_option linter.unusedVariables false
namespace Go.Gx
open Go Go.Conc Go.Proofs

end Go.Gx
end

section
/-
  LOGIC G: a growing list is shared: nobody writes it any more.
-/
set_option linter.unusedSimpArgs false
set_option linter.unusedVariables false
namespace Go.Gx
open Go Go.Conc
end Go.Gx
end

section
set_option linter.unusedSimpArgs false
set_option linter.unusedVariables false
namespace Go.Gx
open Go Go.Conc Go.Proofs
variable {main : Bool}

/-! ### a book whose marks are right for an eye -/
/-! ### the plain law of CanvasReal -/
end Go.Gx
end

section
set_option linter.unusedSimpArgs false
set_option linter.unusedVariables false
namespace Go.Gx
open Go Go.Conc Go.Proofs

end Go.Gx
end

section
set_option linter.unusedSimpArgs false
set_option linter.unusedVariables false
namespace Go.Gx
open Go Go.Conc Go.Proofs
variable {main : Bool}

/-! ### the plain law of CanvasReached -/
end Go.Gx
end

section
set_option linter.unusedSimpArgs false
set_option linter.unusedVariables false
namespace Go.Gx
open Go Go.Conc Go.Proofs

end Go.Gx
end

section
set_option linter.unusedSimpArgs false
set_option linter.unusedVariables false
namespace Go.Gx
open Go Go.Conc Go.Proofs

/-! ### the plain law of CanvasNeeded -/
end Go.Gx
end

section
set_option linter.unusedSimpArgs false
set_option linter.unusedVariables false
namespace Go.Gx
open Go Go.Conc Go.Proofs

/-! ### marks the other way round -/
end Go.Gx
end

section
set_option linter.unusedSimpArgs false
set_option linter.unusedVariables false
namespace Go.Gx
open Go Go.Conc Go.Proofs

end Go.Gx
end

section
set_option linter.unusedSimpArgs false
set_option linter.unusedVariables false
namespace Go.Gx
open Go Go.Conc Go.Proofs
variable {main : Bool}

/-! ### a book that knows more -/
structure Knows (B C : Bk) : Prop where
  b : bookBar B = 0
  c : bookBar C = 0
  r : ∀ e s, rowM C e s = rowM B e s
  s : ∀ e ∈ statesM C, e ∈ statesM B
  n : (statesM C).length ≠ 0
theorem Knows.n' {B C : Bk} (h : Knows B C) : (statesM B).length ≠ 0 := by
  have h1 : 0 < (statesM C).length := by have := h.n; omega
  have := List.length_pos_of_mem (h.s _ (List.getElem_mem h1))
  omega
end Go.Gx
end

section
set_option linter.unusedSimpArgs false
set_option linter.unusedVariables false
namespace Go.Gx
open Go Go.Conc Go.Proofs

end Go.Gx
end

section
set_option linter.unusedSimpArgs false
set_option linter.unusedVariables false
namespace Go.Gx
open Go Go.Conc Go.Proofs

/-! ### an upright canvas -/
end Go.Gx
end

section
set_option linter.unusedSimpArgs false
set_option linter.unusedVariables false
namespace Go.Gx
open Go Go.Conc Go.Proofs

end Go.Gx
end

section
set_option linter.unusedSimpArgs false
set_option linter.unusedVariables false
namespace Go.Gx
open Go Go.Conc Go.Proofs
variable {main : Bool}

end Go.Gx
end

section
set_option linter.unusedSimpArgs false
set_option linter.unusedVariables false
namespace Go.Gx
open Go Go.Conc Go.Proofs

/-! ### sets of marks, by numbers -/
/-! ### the order of lists -/
/-! ### the least set of marks that clash -/
end Go.Gx
end

section
set_option linter.unusedSimpArgs false
set_option linter.unusedVariables false
namespace Go.Gx
open Go Go.Conc Go.Proofs

end Go.Gx
end

section
set_option linter.unusedSimpArgs false
set_option linter.unusedVariables false
namespace Go.Gx
open Go Go.Conc Go.Proofs

/-! ### how many states are left at most -/
end Go.Gx
end

section
set_option linter.unusedSimpArgs false
set_option linter.unusedVariables false
namespace Go.Gx
open Go Go.Conc Go.Proofs

/-! ### the plain law of CanvasAsked -/
end Go.Gx
end

section
set_option linter.unusedSimpArgs false
set_option linter.unusedVariables false
namespace Go.Gx
open Go Go.Conc Go.Proofs

/-! ### fractions in lowest terms -/
theorem low_eq' {n d n' d' : Int} (hd : 0 < d) (hd' : 0 < d') (h : n * d' = n' * d) : low n d = low n' d' := by
  rw [← low_scale (n := n) (d := d) hd', ← low_scale (n := n') (d := d') hd, h, Int.mul_comm d d']
theorem low_eq {n d n' d' : Int} (hd : d ≠ 0) (hd' : d' ≠ 0) (h : n * d' = n' * d) : low n d = low n' d' := by
  have flip : ∀ n d : Int, d ≠ 0 → ∃ n1 d1 : Int, 0 < d1 ∧ low n d = low n1 d1 ∧ ((n1 = n ∧ d1 = d) ∨ (n1 = -n ∧ d1 = -d)) := by
    intro n d hd
    by_cases h : 0 < d
    · exact ⟨n, d, h, rfl, .inl ⟨rfl, rfl⟩⟩
    · exact ⟨-n, -d, by omega, (low_neg hd).symm, .inr ⟨rfl, rfl⟩⟩
  obtain ⟨n1, d1, h1, e1, c1⟩ := flip n d hd
  obtain ⟨n2, d2, h2, e2, c2⟩ := flip n' d' hd'
  rw [e1, e2]
  refine low_eq' h1 h2 ?_
  rcases c1 with ⟨rfl, rfl⟩ | ⟨rfl, rfl⟩ <;> rcases c2 with ⟨rfl, rfl⟩ | ⟨rfl, rfl⟩ <;> grind
def IsLow (x : R2) : Prop := 1 ≤ x.2 ∧ low x.1 x.2 = x
theorem isLow_low {n d : Int} (hd : d ≠ 0) : IsLow (low n d) := by
  have h1 := low_den_pos (n := n) hd
  exact ⟨h1, low_eq (by omega) hd (low_cross hd)⟩
theorem isLow_one (n : Int) : IsLow (n, 1) := ⟨Int.le_refl _, low_one n⟩
theorem IsLow.inj {x y : R2} (hx : IsLow x) (hy : IsLow y) (h : x.1 * y.2 = y.1 * x.2) : x = y := by
  rw [← hx.2, ← hy.2]
  exact low_eq (by have := hx.1; omega) (by have := hy.1; omega) h
/-! ### a point at which a line meets a piece -/
structure SpotOf (p q : R2) (eye : Int) (s : R2) (x : Spot) : Prop where
  l1 : IsLow x.1
  l2 : IsLow x.2
  line : x.2.1 * s.2 * x.1.2 = (eye * s.2 * x.1.2 + s.1 * x.1.1) * x.2.2
  piece : x.1.1 * ((q.2 - p.2) * x.2.2) = (p.1 * ((q.2 - p.2) * x.2.2) + (q.1 - p.1) * (x.2.1 - p.2 * x.2.2)) * x.1.2
  den1 : x.1.2 ≤ 6000
  den2 : x.2.2 ≤ 6000
theorem spot_alg1 {f1 f2 h1 h2 p1 p2 X Y a s1 s2 eye D : Int} (hD : D ≠ 0) (hf : f1 * D = (p1 * D + X * a) * f2) (hh : h1 * D = (p2 * D + Y * a) * h2) (ha : a = (p2 - eye) * s2 - s1 * p1) (hd : D = s1 * X - Y * s2) :
    h1 * s2 * f2 = (eye * s2 * f2 + s1 * f1) * h2 := by
  refine Int.eq_of_mul_eq_mul_right hD ?_
  have e1 : h1 * s2 * f2 * D = (h1 * D) * s2 * f2 := by grind
  have e2 : (eye * s2 * f2 + s1 * f1) * h2 * D = (eye * s2 * f2 * D + s1 * (f1 * D)) * h2 := by grind
  rw [e1, e2, hf, hh]
  have e3 : (p2 * D + Y * a) * s2 = eye * s2 * D + s1 * (p1 * D + X * a) := by
    have e4 : D * a = a * (s1 * X - Y * s2) := by rw [← hd, Int.mul_comm]
    have e5 : D * a = D * ((p2 - eye) * s2 - s1 * p1) := by rw [← ha]
    grind
  grind
theorem spot_alg2 {f1 f2 h1 h2 p1 p2 X Y a D : Int} (hD : D ≠ 0) (hf : f1 * D = (p1 * D + X * a) * f2) (hh : h1 * D = (p2 * D + Y * a) * h2) :
    f1 * (Y * h2) = (p1 * (Y * h2) + X * (h1 - p2 * h2)) * f2 := by
  refine Int.eq_of_mul_eq_mul_right hD ?_
  have e1 : f1 * (Y * h2) * D = (f1 * D) * (Y * h2) := by grind
  have e2 : (p1 * (Y * h2) + X * (h1 - p2 * h2)) * f2 * D = (p1 * (Y * h2) * D + X * (h1 * D - p2 * h2 * D)) * f2 := by grind
  rw [e1, e2, hf, hh]
  grind
theorem off_bd20 {p : R2} {eye : Int} {s : R2} (hp : PtOk p) (he : EyeOk eye) (hs : -20 ≤ s.1 ∧ s.1 ≤ 20 ∧ 1 ≤ s.2 ∧ s.2 ≤ 20) : (offL p eye s).natAbs ≤ 3000 := by
  unfold PtOk at hp
  unfold EyeOk at he
  have h1 := mul_bd (a := p.2 - eye) (b := s.2) (A := 90) (B := 20) (by omega) (by omega)
  have h2 := mul_bd (a := s.1) (b := p.1) (A := 20) (B := 60) (by omega) (by omega)
  unfold offL
  omega
theorem cross_of {p q : R2} {eye : Int} {s : R2} (hp : PtOk p) (hq : PtOk q) (he : EyeOk eye) (hs : -20 ≤ s.1 ∧ s.1 ≤ 20 ∧ 1 ≤ s.2 ∧ s.2 ≤ 20) (hpq : p.2 < q.2) : ∀ x ∈ crossM p q eye s, SpotOf p q eye s x := by
  intro x hx
  have o1 := off_bd20 hp he hs
  have o2 := off_bd20 hq he hs
  unfold crossM at hx
  rw [if_neg (by rintro rfl; omega)] at hx
  split at hx
  · rename_i h0
    unfold offL at h0
    simp only [List.mem_cons, List.not_mem_nil, or_false] at hx
    rcases hx with rfl | rfl
    · exact ⟨isLow_one _, isLow_one _, by simp only; grind, by simp only; grind, by simp only; omega, by simp only; omega⟩
    · exact ⟨isLow_one _, isLow_one _, by simp only; grind, by simp only; grind, by simp only; omega, by simp only; omega⟩
  · rename_i h0
    split at hx
    · rename_i hc
      rw [List.mem_singleton] at hx
      subst hx
      have hD : offL p eye s - offL q eye s ≠ 0 := by omega
      have k1 := low_cross (n := p.1 * (offL p eye s - offL q eye s) + (q.1 - p.1) * offL p eye s) hD
      have k2 := low_cross (n := p.2 * (offL p eye s - offL q eye s) + (q.2 - p.2) * offL p eye s) hD
      have d1 := lowD_le (n := p.1 * (offL p eye s - offL q eye s) + (q.1 - p.1) * offL p eye s) (d := offL p eye s - offL q eye s)
      have d2 := lowD_le (n := p.2 * (offL p eye s - offL q eye s) + (q.2 - p.2) * offL p eye s) (d := offL p eye s - offL q eye s)
      have ha : offL p eye s = (p.2 - eye) * s.2 - s.1 * p.1 := rfl
      have hd : offL p eye s - offL q eye s = s.1 * (q.1 - p.1) - (q.2 - p.2) * s.2 := by unfold offL; grind
      refine ⟨isLow_low hD, isLow_low hD, spot_alg1 hD k1 k2 ha hd, spot_alg2 hD k1 k2, ?_, ?_⟩
      · show lowD _ _ ≤ _; omega
      · show lowD _ _ ≤ _; omega
    · cases hx
/-! ### the nearest one -/
theorem lessW_ok {x y : Spot} (hx : SpotOk x) (hy : SpotOk y) : lessW x.1 y.1 = decide (x.1.1 * y.1.2 < y.1.1 * x.1.2) := by
  obtain ⟨a1, a2, _, _⟩ := hx
  obtain ⟨b1, b2, _, _⟩ := hy
  have e1 := mul_bd (a := x.1.1) (b := y.1.2) (A := 500000000) (B := 3000000) (by omega) (by omega)
  have e2 := mul_bd (a := y.1.1) (b := x.1.2) (A := 500000000) (B := 3000000) (by omega) (by omega)
  unfold lessW
  rw [wr_in (by omega), wr_in (by omega)]
theorem frac_trans {a b c d e f : Int} (hb : 0 < b) (hd : 0 < d) (hf : 0 < f) (h1 : a * d < c * b) (h2 : c * f < e * d) : a * f < e * b := by
  have k1 := Int.mul_lt_mul_of_pos_right h1 hf
  have k2 := Int.mul_lt_mul_of_pos_right h2 hb
  have e1 : c * b * f = c * f * b := Int.mul_right_comm ..
  have k3 : a * d * f < e * d * b := by omega
  have e2 : a * d * f = a * f * d := Int.mul_right_comm ..
  have e3 : e * d * b = e * b * d := Int.mul_right_comm ..
  rw [e2, e3] at k3
  exact Int.lt_of_mul_lt_mul_right k3 (Int.le_of_lt hd)
theorem bestM_leqP {α : Type} {r : α → α → Bool} {P : α → Prop} (ht : ∀ x y z, P x → P y → P z → r x y = true → r y z = true → r x z = true) : ∀ (l : List α) (one : α), P one → (∀ x ∈ l, P x) → bestM r one l = one ∨ r (bestM r one l) one = true
  | [], one, _, _ => .inl rfl
  | x :: l, one, h1, hl => by
    have hx := hl x (List.mem_cons_self ..)
    have hl' : ∀ x ∈ l, P x := fun z hz => hl z (List.mem_cons_of_mem _ hz)
    have mem : ∀ w, P w → P (bestM r w l) := by
      intro w hw
      rcases List.mem_cons.1 (bestM_mem r w l) with h | h
      · rw [h]; exact hw
      · exact hl' _ h
    have e : bestM r one (x :: l) = bestM r (if r x one = true then x else one) l := rfl
    rw [e]
    by_cases h : r x one = true
    · rw [if_pos h]
      rcases bestM_leqP ht l x hx hl' with h2 | h2
      · rw [h2]; exact .inr h
      · exact .inr (ht _ _ _ (mem x hx) hx h1 h2 h)
    · rw [if_neg h]
      exact bestM_leqP ht l one h1 hl'
theorem bestM_leastP {α : Type} {r : α → α → Bool} {P : α → Prop} (hi : ∀ x, P x → r x x = false) (ht : ∀ x y z, P x → P y → P z → r x y = true → r y z = true → r x z = true) : ∀ (l : List α) (one : α), P one → (∀ x ∈ l, P x) → ∀ y ∈ one :: l, r y (bestM r one l) = false
  | [], one, h1, _, y, hy => by
    obtain rfl : y = one := by simpa using hy
    exact hi _ h1
  | x :: l, one, h1, hl, y, hy => by
    have hx := hl x (List.mem_cons_self ..)
    have hl' : ∀ x ∈ l, P x := fun z hz => hl z (List.mem_cons_of_mem _ hz)
    have e : bestM r one (x :: l) = bestM r (if r x one = true then x else one) l := rfl
    rw [e]
    have mem : ∀ w, P w → P (bestM r w l) := by
      intro w hw
      rcases List.mem_cons.1 (bestM_mem r w l) with h | h
      · rw [h]; exact hw
      · exact hl' _ h
    by_cases h : r x one = true
    · rw [if_pos h]
      have ih := bestM_leastP hi ht l x hx hl'
      rcases List.mem_cons.1 hy with rfl | hy
      · cases h3 : r y (bestM r x l)
        · rfl
        · have := ht _ _ _ hx h1 (mem x hx) h h3
          rw [ih x (List.mem_cons_self ..)] at this
          cases this
      · exact ih y hy
    · rw [if_neg h]
      have ih := bestM_leastP hi ht l one h1 hl'
      rcases List.mem_cons.1 hy with rfl | hy
      · exact ih y (List.mem_cons_self ..)
      · rcases List.mem_cons.1 hy with rfl | hy
        · cases h3 : r y (bestM r one l)
          · rfl
          · have hb := ih one (List.mem_cons_self ..)
            rcases bestM_leqP ht l one h1 hl' with h4 | h4
            · rw [h4] at h3; exact absurd h3 (by simpa using h)
            · rw [ht _ _ _ hx (mem one h1) h1 h3 h4] at h
              exact absurd rfl h
        · exact ih y (List.mem_cons_of_mem _ hy)
theorem pieces_ok {ps : List R2} (hp : ∀ p ∈ ps, PtOk p) {eye : Int} {s : R2} (he : EyeOk eye) (hs : SlOk s) : ∀ y ∈ piecesM ps eye s, SpotOk y := by
  intro y hy
  unfold piecesM at hy
  obtain ⟨⟨p, q⟩, hpq, hy⟩ := List.mem_flatMap.1 hy
  exact crossM_ok (hp _ (List.of_mem_zip hpq).1) (hp _ (List.mem_of_mem_tail (List.of_mem_zip hpq).2)) he hs y hy
theorem meet_some {ps : List R2} (hp : ∀ p ∈ ps, PtOk p) {eye : Int} {s : R2} (he : EyeOk eye) (hs : SlOk s) {x : Spot} (h : meetM ps eye s = some x) :
    x ∈ piecesM ps eye s ∧ ∀ y ∈ piecesM ps eye s, x.1.1 * y.1.2 ≤ y.1.1 * x.1.2 := by
  have hok := pieces_ok hp he hs
  unfold meetM at h
  split at h
  · cases h
  · rename_i z l e
    cases h
    rw [e] at hok ⊢
    have hm := bestM_mem (fun a b : Spot => lessW a.1 b.1) z l
    refine ⟨hm, fun y hy => ?_⟩
    have := bestM_leastP (r := fun a b : Spot => lessW a.1 b.1) (P := SpotOk) (fun x hx => by simp [lessW]) (fun x y z hx hy hz h1 h2 => by
      rw [lessW_ok hx hy, decide_eq_true_eq] at h1
      rw [lessW_ok hy hz, decide_eq_true_eq] at h2
      rw [lessW_ok hx hz, decide_eq_true_eq]
      exact frac_trans (by have := hx.f2; omega) (by have := hy.f2; omega) (by have := hz.f2; omega) h1 h2) l z (hok z (List.mem_cons_self ..)) (fun x hx => hok x (List.mem_cons_of_mem _ hx)) y hy
    rw [lessW_ok (hok y hy) (hok _ hm), decide_eq_false_iff_not] at this
    omega
theorem meet_none {ps : List R2} {eye : Int} {s : R2} : meetM ps eye s = none ↔ piecesM ps eye s = [] := by
  unfold meetM
  split
  · rename_i e; simp [e]
  · rename_i e; simp [e]
/-! ### points of the profile on the line; lines that miss the canvas -/
theorem cross_end1 {p q : R2} {eye : Int} {s : R2} (hpq : p.2 < q.2) (h : offL p eye s = 0) : ((p.1, (1 : Int)), (p.2, (1 : Int))) ∈ crossM p q eye s := by
  unfold crossM
  rw [if_neg (by rintro rfl; omega)]
  by_cases h2 : offL q eye s = 0
  · rw [if_pos ⟨h, h2⟩]; exact List.mem_cons_self ..
  · rw [if_neg (by omega), if_pos (by omega), h]
    rw [show p.1 * (0 - offL q eye s) + (q.1 - p.1) * 0 = p.1 * (0 - offL q eye s) by omega, show p.2 * (0 - offL q eye s) + (q.2 - p.2) * 0 = p.2 * (0 - offL q eye s) by omega, low_mul (by omega), low_mul (by omega)]
    exact List.mem_cons_self ..
theorem cross_end2 {p q : R2} {eye : Int} {s : R2} (hpq : p.2 < q.2) (h : offL q eye s = 0) : ((q.1, (1 : Int)), (q.2, (1 : Int))) ∈ crossM p q eye s := by
  unfold crossM
  rw [if_neg (by rintro rfl; omega)]
  by_cases h2 : offL p eye s = 0
  · rw [if_pos ⟨h2, h⟩]; exact List.mem_cons_of_mem _ (List.mem_cons_self ..)
  · rw [if_neg (by omega), if_pos (by omega), h]
    rw [show p.1 * (offL p eye s - 0) + (q.1 - p.1) * offL p eye s = q.1 * (offL p eye s - 0) by grind, show p.2 * (offL p eye s - 0) + (q.2 - p.2) * offL p eye s = q.2 * (offL p eye s - 0) by grind, low_mul (by omega), low_mul (by omega)]
    exact List.mem_cons_self ..
theorem piece_at {eye : Int} {s : R2} : ∀ (ps : List R2), 2 ≤ ps.length → ps.Pairwise (fun p q => p.2 < q.2) → ∀ p ∈ ps, offL p eye s = 0 → ((p.1, (1 : Int)), (p.2, (1 : Int))) ∈ piecesM ps eye s
  | [], h, _, _, _, _ => by simp at h
  | [_], h, _, _, _, _ => by simp at h
  | a :: b :: r, _, hpw, p, hp, h0 => by
    have hab : a.2 < b.2 := (List.pairwise_cons.1 hpw).1 b (by simp)
    rw [pieces_cons]
    rcases List.mem_cons.1 hp with rfl | hp
    · exact List.mem_append_left _ (cross_end1 hab h0)
    · rcases List.mem_cons.1 hp with rfl | hp
      · exact List.mem_append_left _ (cross_end2 hab h0)
      · refine List.mem_append_right _ (piece_at (b :: r) ?_ (List.pairwise_cons.1 hpw).2 p (List.mem_cons_of_mem _ hp) h0)
        have := List.length_pos_of_mem hp
        simp only [List.length_cons]; omega
end Go.Gx
end

section
set_option linter.unusedSimpArgs false
set_option linter.unusedVariables false
namespace Go.Gx
open Go Go.Conc Go.Proofs

def sgnM (n : Int) : Int := if n < 0 then -1 else if n = 0 then 0 else 1
theorem offL_comm (p : R2) (eye : Int) (s : R2) : (p.2 - eye) * s.2 - p.1 * s.1 = offL p eye s := by unfold offL; grind
set_option maxRecDepth 100000 in
set_option maxHeartbeats 1000000 in
/-- sign (law02) -/
theorem s41 {main : Bool} (L : Lg Tryz.prog main) (H : Facts) {p : R2} {eye : Int} {s : R2} (hp : PtOk p) (he : EyeOk eye) (hs : -20 ≤ s.1 ∧ s.1 ≤ 20 ∧ 1 ≤ s.2 ∧ s.2 ≤ 20) :
    Pure L 41 #[.agg (List.toArray (c2 p)), .int .i64 eye, rV s] H (.int .i64 (sgnM (offL p eye s))) := by
  refine Spec.enter Tryz.func41 rfl (by simp [Tryz.f41]) fun c cs hc => ?_
  rw [← offL_comm] at hc
  unfold PtOk at hp
  unfold EyeOk at he
  have h1 := mul_bd (a := p.2 - eye) (b := s.2) (A := 90) (B := 20) (by omega) (by omega)
  have h2 := mul_bd (a := p.1) (b := s.1) (A := 60) (B := 20) (by omega) (by omega)
  refine At.seq (At.region ?_); refine At.bx rfl rfl rfl rfl rfl rfl rfl fun r3 => ?_; refine At.bx rfl rfl rfl rfl rfl rfl rfl fun r5 => ?_; refine At.v rfl rfl rfl rfl rfl trivial ?_; refine At.regionEnd (At.seq (At.region ?_)); refine At.fa 1 rfl rfl rfl rfl rfl rfl rfl ?_; refine At.ld 1 rfl rfl rfl rfl rfl rfl rfl rfl rfl ?_; refine At.v rfl rfl rfl rfl rfl trivial ?_; refine At.v rfl rfl rfl rfl rfl (by omega) ?_; refine At.fa 1 rfl rfl rfl rfl rfl rfl rfl ?_
  refine At.ld 0 rfl rfl rfl rfl rfl rfl rfl rfl rfl ?_; refine At.v rfl rfl rfl rfl rfl (by omega) ?_; refine At.fa 0 rfl rfl rfl rfl rfl rfl rfl ?_; refine At.ld 1 rfl rfl rfl rfl rfl rfl rfl rfl rfl ?_; refine At.fa 0 rfl rfl rfl rfl rfl rfl rfl ?_; refine At.ld 0 rfl rfl rfl rfl rfl rfl rfl rfl rfl ?_; (iterate 2 refine At.v rfl rfl rfl rfl rfl (by omega) ?_); refine At.v rfl rfl rfl rfl rfl trivial ?_; refine At.regionEnd (At.seq (At.region ?_))
  (iterate 4 refine At.v rfl rfl rfl rfl rfl trivial ?_); refine At.regionEnd ?_
  generalize (p.2 - eye) * s.2 - p.1 * s.1 = n at hc ⊢
  have e : (if (if n < 1 then n else 1) > -1 then (if n < 1 then n else 1) else -1) = sgnM n := by unfold sgnM; split <;> split <;> split <;> omega
  rw [← e] at hc
  exact At.ret Tryz.func41 (.inr ⟨_, rfl⟩) rfl (.tmp rfl .nil) (wk (hc _ _ (⟨by rfl, rfl⟩)))
/-- Whether a point, by its fractions, is on a piece. -/
def onM (p q f h : R2) : Bool :=
  if h.1 - p.2 * h.2 < 0 ∨ (q.2 - p.2) * h.2 < h.1 - p.2 * h.2 then false
  else decide (f.1 * ((q.2 - p.2) * h.2) = (p.1 * ((q.2 - p.2) * h.2) + (q.1 - p.1) * (h.1 - p.2 * h.2)) * f.2)
/-! ### the plain law of CanvasExact -/
theorem far_bd {p q : R2} {eye : Int} {s : R2} {x : Spot} (hp : PtOk p) (hq : PtOk q) (hpq : p.2 < q.2) (hx : SpotOf p q eye s x) (hh : p.2 * x.2.2 ≤ x.2.1 ∧ x.2.1 ≤ q.2 * x.2.2) : x.1.2 ≤ x.1.1 ∧ x.1.1 ≤ 60 * x.1.2 := by
  have h2 := hx.l2.1
  have f2 := hx.l1.1
  have hk := hx.piece
  unfold PtOk at hp hq
  generalize x.1.1 = f1 at *
  generalize x.1.2 = f at *
  generalize x.2.1 = h1 at *
  generalize x.2.2 = h at *
  have hA : 0 < (q.2 - p.2) * h := Int.mul_pos (by omega) (by omega)
  obtain ⟨n, hn⟩ : ∃ n, h1 - p.2 * h = n := ⟨_, rfl⟩
  have hn1 : n ≤ (q.2 - p.2) * h := by rw [Int.sub_mul]; omega
  have hn0 : 0 ≤ n := by omega
  rw [hn] at hk
  generalize (q.2 - p.2) * h = A at *
  have k1 : p.1 * A + (q.1 - p.1) * n = p.1 * (A - n) + q.1 * n := by grind
  have a1 := Int.mul_le_mul_of_nonneg_right (show 1 ≤ p.1 by omega) (show 0 ≤ A - n by omega)
  have a2 := Int.mul_le_mul_of_nonneg_right (show 1 ≤ q.1 by omega) hn0
  have a3 := Int.mul_le_mul_of_nonneg_right (show p.1 ≤ 60 by omega) (show 0 ≤ A - n by omega)
  have a4 := Int.mul_le_mul_of_nonneg_right (show q.1 ≤ 60 by omega) hn0
  rw [k1] at hk
  have b1 := Int.mul_le_mul_of_nonneg_right (show A ≤ p.1 * (A - n) + q.1 * n by omega) (show 0 ≤ f by omega)
  have b2 := Int.mul_le_mul_of_nonneg_right (show p.1 * (A - n) + q.1 * n ≤ 60 * A by omega) (show 0 ≤ f by omega)
  rw [← hk] at b1 b2
  have e0 : f * A = A * f := Int.mul_comm ..
  have e : 60 * f * A = 60 * A * f := Int.mul_right_comm ..
  have c1 : f * A ≤ f1 * A := by omega
  have c2 : f1 * A ≤ 60 * f * A := by omega
  exact ⟨Int.le_of_mul_le_mul_right c1 hA, Int.le_of_mul_le_mul_right c2 hA⟩
theorem line_alg {h1 h2 f1 f2 s1 s2 eye : Int} (h : h1 * s2 * f2 = (eye * s2 * f2 + s1 * f1) * h2) : (h1 - eye * h2) * f2 * s2 = f1 * s1 * h2 := by grind
structure Exact (B : Bk) (eye : Int) (s : R2) (x : Spot) : Prop where
  l1 : IsLow x.1
  l2 : IsLow x.2
  l3 : IsLow (squareM B x.2).2
  f1 : 1 ≤ x.1.1 ∧ x.1.1 ≤ 360000
  f2 : x.1.2 ≤ 6000
  h1 : 0 ≤ x.2.1 ∧ x.2.1 ≤ 540000
  h2 : x.2.2 ≤ 6000
  row : 0 ≤ (squareM B x.2).1 ∧ (squareM B x.2).1 ≤ 90
  part : 0 ≤ (squareM B x.2).2.1 ∧ (squareM B x.2).2.1 < (squareM B x.2).2.2
  partD : (squareM B x.2).2.2 ≤ 180000
  line : (x.2.1 - eye * x.2.2) * x.1.2 * s.2 = x.1.1 * s.1 * x.2.2
  on : ∃ i, ∃ h : i + 1 < B.prof.length, onM B.prof[i] B.prof[i + 1] x.1 x.2 = true
  high : (x.2.1 - footM B * x.2.2) * (squareM B x.2).2.2 = ((squareM B x.2).1 * (squareM B x.2).2.2 + (squareM B x.2).2.1) * B.size * x.2.2
theorem exact_of {B : Bk} (hz : bookBar B = 0) {eye : Int} {s : R2} (he : EyeOk eye) (hs : -20 ≤ s.1 ∧ s.1 ≤ 20 ∧ 1 ≤ s.2 ∧ s.2 ≤ 20) {x : Spot} (h : meetM B.prof eye s = some x) : Exact B eye s x := by
  have hb := bounds_of_bar hz
  obtain ⟨p, q, hpq, hx⟩ := meet_mem h
  obtain ⟨hp, hq, hlt⟩ := pairs_ok hb.2.2.1 (prof_pw hz) _ hpq
  simp only at hp hq hlt
  have hc := cross_of hp hq he hs hlt x hx
  have hh := cross_high hlt x hx
  have hf := far_bd hp hq hlt hc hh
  have hsl : SlOk s := by unfold SlOk; omega
  have hrow := row_ok hz he hsl
  have his := row_isSome hz he hsl
  rw [h] at his
  simp only [Option.isSome_some] at his
  have hr0 : 0 ≤ rowM B eye s := by simpa using his.symm
  rw [rowM_some h] at hrow hr0
  obtain ⟨l1, l2, ln, pc, d1, d2⟩ := id hc
  have l11 := l1.1
  have l21 := l2.1
  have hp' := hp
  have hq' := hq
  unfold PtOk at hp' hq'
  have hft := foot_le hz p (List.of_mem_zip hpq).1
  have hf0 := foot_pos hz
  have g1 : 0 ≤ p.2 * x.2.2 := Int.mul_nonneg (by omega) (by omega)
  have g2 := Int.mul_le_mul_of_nonneg_right (show q.2 ≤ 90 by omega) (show 0 ≤ x.2.2 by omega)
  have g3 := Int.mul_le_mul_of_nonneg_right hft (show 0 ≤ x.2.2 by omega)
  have hD : 0 < B.size * x.2.2 := Int.mul_pos (by omega) (by omega)
  have hN : 0 ≤ x.2.1 - footM B * x.2.2 := by omega
  have hDb := mul_bd (a := B.size) (b := x.2.2) (A := 30) (B := 6000) (by omega) (by omega)
  have ht0 := Int.tmod_nonneg (B.size * x.2.2) hN
  have ht1 := Int.tmod_lt_of_pos (x.2.1 - footM B * x.2.2) hD
  have hcr := low_cross (n := (x.2.1 - footM B * x.2.2).tmod (B.size * x.2.2)) (d := B.size * x.2.2) (by omega)
  have hpd := low_den_pos (n := (x.2.1 - footM B * x.2.2).tmod (B.size * x.2.2)) (d := B.size * x.2.2) (by omega)
  have hpl := lowD_le (n := (x.2.1 - footM B * x.2.2).tmod (B.size * x.2.2)) (d := B.size * x.2.2)
  have hdm := Int.mul_tdiv_add_tmod (x.2.1 - footM B * x.2.2) (B.size * x.2.2)
  have eP : (squareM B x.2).2 = low ((x.2.1 - footM B * x.2.2).tmod (B.size * x.2.2)) (B.size * x.2.2) := rfl
  have eR : (squareM B x.2).1 = (x.2.1 - footM B * x.2.2).tdiv (B.size * x.2.2) := rfl
  have eD : (low ((x.2.1 - footM B * x.2.2).tmod (B.size * x.2.2)) (B.size * x.2.2)).2 = lowD ((x.2.1 - footM B * x.2.2).tmod (B.size * x.2.2)) (B.size * x.2.2) := rfl
  refine ⟨l1, l2, by rw [eP]; exact isLow_low (by omega), by omega, d1, by omega, d2, by omega, ?_, ?_, ?_, ?_, ?_⟩
  · rw [eP]
    generalize low ((x.2.1 - footM B * x.2.2).tmod (B.size * x.2.2)) (B.size * x.2.2) = w at *
    generalize (x.2.1 - footM B * x.2.2).tmod (B.size * x.2.2) = m at *
    generalize B.size * x.2.2 = D at *
    constructor
    · have : 0 ≤ w.1 * D := by rw [hcr]; exact Int.mul_nonneg ht0 (by omega)
      exact Int.nonneg_of_mul_nonneg_left this hD
    · have k := Int.mul_lt_mul_of_pos_right ht1 (show 0 < w.2 by omega)
      rw [← hcr, Int.mul_comm D w.2] at k
      exact Int.lt_of_mul_lt_mul_right k (by omega)
  · rw [eP, eD]; omega
  · exact line_alg ln
  · obtain ⟨i, hi, e⟩ := List.getElem_of_mem hpq
    simp only [List.getElem_zip, List.getElem_tail, Prod.mk.injEq] at e
    have hi2 : i + 1 < B.prof.length := by
      simp only [List.length_zip, List.length_tail] at hi; omega
    refine ⟨i, hi2, ?_⟩
    obtain ⟨e1, e2⟩ := e
    rw [e1, e2]
    unfold onM
    rw [if_neg (by rw [Int.sub_mul]; omega), decide_eq_true_eq]
    exact pc
  · rw [eP, eR]
    generalize low ((x.2.1 - footM B * x.2.2).tmod (B.size * x.2.2)) (B.size * x.2.2) = w at *
    generalize (x.2.1 - footM B * x.2.2).tmod (B.size * x.2.2) = m at *
    generalize (x.2.1 - footM B * x.2.2).tdiv (B.size * x.2.2) = r at *
    rw [← hdm]
    grind
end Go.Gx
end

section
set_option linter.unusedSimpArgs false
set_option linter.unusedVariables false
namespace Go.Gx
open Go Go.Conc Go.Proofs

end Go.Gx
end

section
set_option linter.unusedSimpArgs false
set_option linter.unusedVariables false
namespace Go.Gx
open Go Go.Conc Go.Proofs

/-! ### the plain law of CanvasNearest -/
theorem climbs_of {lim : Int} : ∀ (l : List Int) (pr : Option Int), (∀ x ∈ l, 0 ≤ x ∧ x ≤ lim - 1) → l.Pairwise (· < ·) → (∀ y, pr = some y → ∀ x ∈ l, y < x) → climbsM lim pr l = 0
  | [], _, _, _, _ => rfl
  | x :: l, pr, h1, h2, h3 => by
    obtain ⟨h4, h5⟩ := List.pairwise_cons.1 h2
    rw [climbsM_cons, if_neg (by simpa using h1 x (List.mem_cons_self ..)), if_neg]
    · exact climbs_of l _ (fun y hy => h1 y (List.mem_cons_of_mem _ hy)) h5 (fun y hy z hz => by cases hy; exact h4 z hz)
    · cases pr with
      | none => simp
      | some y =>
        have := h3 y rfl x (List.mem_cons_self ..)
        simp; omega
theorem mem_hidden {B : Bk} {eye : Int} : ∀ {n : Nat} {x : Int}, x ∈ hiddenTo B eye n ↔ ∃ k : Nat, x = k ∧ k < n ∧ hidAt B eye (B.prof.getD k (0, 0)) = true
  | 0, x => by simp [hiddenTo]
  | n + 1, x => by
    unfold hiddenTo
    rw [List.mem_append, mem_hidden]
    constructor
    · rintro (⟨k, rfl, h1, h2⟩ | h)
      · exact ⟨k, rfl, by omega, h2⟩
      · split at h
        · rename_i h0
          exact ⟨n, by simpa using h, by omega, h0⟩
        · cases h
    · rintro ⟨k, rfl, h1, h2⟩
      by_cases e : k = n
      · subst e
        right; rw [if_pos h2]; simp
      · exact .inl ⟨k, rfl, by omega, h2⟩
theorem hidden_pw (B : Bk) (eye : Int) : ∀ n, (hiddenTo B eye n).Pairwise (· < ·)
  | 0 => List.Pairwise.nil
  | n + 1 => by
    unfold hiddenTo
    rw [List.pairwise_append]
    refine ⟨hidden_pw B eye n, ?_, ?_⟩
    · split <;> simp
    · intro x hx y hy
      obtain ⟨k, rfl, h1, _⟩ := mem_hidden.1 hx
      split at hy
      · obtain rfl : y = n := by simpa using hy
        omega
      · cases hy
theorem hidden_climbs (B : Bk) (eye : Int) (n : Nat) : climbsM n none (hiddenTo B eye n) = 0 :=
  climbs_of _ _ (fun x hx => by obtain ⟨k, rfl, h1, _⟩ := mem_hidden.1 hx; omega) (hidden_pw B eye n) (by simp)
theorem near_line {B : Bk} (hz : bookBar B = 0) {eye : Int} {s : R2} (he : EyeOk eye) (hs : SlOk s) {p : R2} (hp : p ∈ B.prof) (h0 : offL p eye s = 0) :
    ∃ x, meetM B.prof eye s = some x ∧ x.1.1 ≤ p.1 * x.1.2 ∧ SpotOk ((p.1, 1), (p.2, 1)) := by
  have hb := bounds_of_bar hz
  have hm := piece_at (eye := eye) (s := s) B.prof hb.1 (prof_pw hz) p hp h0
  cases h : meetM B.prof eye s with
  | none =>
    rw [meet_none] at h
    rw [h] at hm; cases hm
  | some x =>
    obtain ⟨h1, h2⟩ := meet_some hb.2.2.1 he hs h
    refine ⟨x, rfl, ?_, pieces_ok hb.2.2.1 he hs _ hm⟩
    have := h2 _ hm
    simpa using this
theorem near_point {B : Bk} (hz : bookBar B = 0) {eye : Int} (he : EyeOk eye) {p : R2} (hp : p ∈ B.prof) (hk : slopeBar (low (p.2 - eye) p.1).1 (low (p.2 - eye) p.1).2 = 0) :
    ∃ x, meetM B.prof eye (low (p.2 - eye) p.1) = some x ∧ (decide (x.1 = (p.1, 1)) && decide (x.2 = (p.2, 1))) = !hidAt B eye p := by
  have hb := bounds_of_bar hz
  have hpo := hb.2.2.1 p hp
  have hp' := hpo
  unfold PtOk at hp'
  have hcr := low_cross (n := p.2 - eye) (d := p.1) (by omega)
  have hks := slOk_of_bar hk
  have hsl := slOk_of _ hk
  have h0 : offL p eye (low (p.2 - eye) p.1) = 0 := by
    unfold offL; omega
  obtain ⟨x, hx, hle, hok⟩ := near_line hz he hsl hp h0
  refine ⟨x, hx, ?_⟩
  have hxo := meetM_ok hb.2.2.1 he hsl hx
  rw [hid_some hx, low_one]
  have hl := lessW_ok (x := x) (y := ((p.1, 1), (p.2, 1))) hxo hok
  simp only at hl
  rw [hl]
  obtain ⟨p', q', hpq, hxm⟩ := meet_mem hx
  obtain ⟨a1, a2, a3⟩ := pairs_ok hb.2.2.1 (prof_pw hz) _ hpq
  have hc := cross_of a1 a2 he hks a3 x hxm
  by_cases e : x.1.1 * 1 < p.1 * x.1.2
  · have : x.1 ≠ (p.1, 1) := by
      intro e2
      rw [e2] at e
      simp at e
    rw [decide_eq_true e, decide_eq_false this]
    rfl
  · have e1 : x.1 = (p.1, 1) := hc.l1.inj (isLow_one _) (by simp only; omega)
    have e2 : x.2 = (p.2, 1) := by
      refine hc.l2.inj (isLow_one _) ?_
      have hln := hc.line
      rw [e1] at hln
      simp only at hln ⊢
      generalize low (p.2 - eye) p.1 = k at *
      have h3 : x.2.1 * 1 * k.2 = p.2 * x.2.2 * k.2 := by grind
      exact Int.eq_of_mul_eq_mul_right (by omega) h3
    rw [decide_eq_false e, decide_eq_true e1, decide_eq_true e2]
    rfl
structure NearV (B : Bk) (eye : Int) (s f h : R2) (fd : Bool) : Prop where
  den0 : 0 ≤ f.2 ∧ f.2 ≤ 6000
  den : fd = true → 1 ≤ f.2 ∧ f.2 ≤ 6000 ∧ 1 ≤ h.2
  near : ∀ p ∈ B.prof, offL p eye s = 0 → fd = true ∧ f.1 ≤ p.1 * f.2
theorem near_cases {B : Bk} (hz : bookBar B = 0) {eye : Int} {s : R2} (he : EyeOk eye) (hs : -20 ≤ s.1 ∧ s.1 ≤ 20 ∧ 1 ≤ s.2 ∧ s.2 ≤ 20) :
    ∃ (f h : R2) (fd : Bool), Value.tuple #[rV ((meetM B.prof eye s).getD ((0, 0), (0, 0))).1, rV ((meetM B.prof eye s).getD ((0, 0), (0, 0))).2, .bool (meetM B.prof eye s).isSome, .int .i64 0] = .tuple #[rV f, rV h, .bool fd, .int .i64 0] ∧ NearV B eye s f h fd := by
  have hsl : SlOk s := by unfold SlOk; omega
  cases hm : meetM B.prof eye s with
  | none =>
    refine ⟨(0, 0), (0, 0), false, rfl, by simp, by simp, fun p hp h0 => ?_⟩
    obtain ⟨x, hx, _⟩ := near_line hz he hsl hp h0
    rw [hm] at hx; cases hx
  | some x =>
    have e := exact_of hz he hs hm
    refine ⟨x.1, x.2, true, rfl, ⟨by have := e.l1.1; omega, e.f2⟩, fun _ => ⟨e.l1.1, e.f2, e.l2.1⟩, fun p hp h0 => ⟨rfl, ?_⟩⟩
    obtain ⟨y, hy, h1, _⟩ := near_line hz he hsl hp h0
    rw [hm] at hy; cases hy
    exact h1
set_option maxRecDepth 100000 in
set_option maxHeartbeats 4000000 in
/-- CanvasNearest -/
theorem law6 {Post : Value → World → Prop} {W₀ : World} {H Hg : Facts} (hG : Glo H Hg) (hsh : ∀ f ∈ H, f.isOwn = false) {B : Bk} {A : BkA} (hBk : BkR H B A) {h d n : Int} (hh : 0 ≤ h ∧ h ≤ 255) (hd : 0 ≤ d ∧ d ≤ 255) (hn : -128 ≤ n ∧ n ≤ 127) :
    LawAt (mainLg Tryz.prog Post W₀ [] []) 6 #[bkV B A, .int .u8 h, .int .u8 d, .int .i8 n] H (.bool true) := by
  refine LawAt.enter Tryz.func6 rfl (by simp [Tryz.f6]) fun cs hLB => ?_
  obtain ⟨pa, pc, ma, mc⟩ := A
  generalize hL : mainLg Tryz.prog Post W₀ [] [] = L at hLB ⊢
  have stop22 := trivial
  refine At.seq (At.region ?_); refine At.bx rfl rfl rfl rfl rfl rfl rfl fun r4 => ?_; refine At.v rfl rfl rfl rfl rfl trivial ?_; refine At.regionEnd (At.seq (At.seq (At.region ?_))); refine At.ld 0 rfl rfl rfl rfl rfl rfl rfl rfl rfl ?_; refine At.cqb rfl rfl rfl rfl rfl rfl rfl rfl (s39 L _ bs) fun b25 h25 => ?_; refine At.v rfl rfl rfl rfl rfl trivial ?_; refine At.regionEnd ?_
  cases b25
  · refine At.cond rfl ?_
    refine At.seq (At.region ?_)
    subst hL
    refine At.cq rfl rfl rfl rfl rfl rfl rfl rfl (s22 hG.a) ?_; refine At.v rfl rfl rfl rfl rfl trivial ?_; refine At.regionEnd ?_
    exact hLB Tryz.func6 (.inr ⟨_, rfl⟩) rfl (.tmp rfl .nil) (⟨by rfl, rfl⟩)
  have hf : fitM B = true := h25
  have hz : bookBar B = 0 := by simp [fitM] at hf; exact hf.2.2
  have hg : Cells H 0 0 chkC := hG.g.a hG.sub
  have hb := bounds_of_bar hz
  have hrp := hBk.p
  simp only at hrp
  have hO : Opn H B ⟨pa, pc, ma, mc⟩ := ⟨hg, hBk, by omega, by omega⟩
  have w1 : IntKind.wrap .i64 h = h := wrap_in (by omega)
  have stop25 := trivial
  refine At.cond rfl ?_; refine At.skip (At.seq (At.region ?_)); refine At.v rfl rfl rfl rfl rfl trivial ?_; refine At.q rfl rfl rfl rfl (q_conv rfl rfl rfl) ?_; refine At.v rfl rfl rfl rfl rfl (by omega) ?_; (iterate 2 refine At.v rfl rfl rfl rfl rfl trivial ?_); refine At.cq rfl rfl rfl rfl rfl rfl rfl rfl (s40 L _ bs bs) ?_; refine At.al rfl rfl rfl rfl rfl fun r10 => ?_; refine At.v rfl rfl rfl rfl rfl trivial ?_; refine At.st 0 rfl rfl rfl rfl rfl rfl rfl rfl rfl rfl rfl rfl ?_
  refine At.regionEnd (At.seq (At.region ?_)); refine At.ld 1 rfl rfl rfl rfl rfl rfl rfl rfl rfl ?_; refine At.v rfl rfl rfl rfl rfl trivial ?_; refine At.ld 0 rfl rfl rfl rfl rfl rfl rfl rfl rfl ?_
  clear stop25
  rw [w1]
  have he : EyeOk (h.tmod 91) := ⟨Int.tmod_nonneg _ hh.1, by have := Int.tmod_lt_of_pos h (show (0 : Int) < 91 by decide); omega⟩
  have hsb : slopeBar (low (n.tmod 21) (1 + d.tmod 20)).1 (low (n.tmod 21) (1 + d.tmod 20)).2 = 0 :=
    low_slope (tmod_bd n 21 (by omega)) (by have h1 := Int.tmod_nonneg 20 hd.1; have h2 := Int.tmod_lt_of_pos d (show (0 : Int) < 20 by decide); omega)
  generalize h.tmod 91 = eye at he ⊢
  generalize low (n.tmod 21) (1 + d.tmod 20) = s at hsb ⊢
  have hs := slOk_of_bar hsb
  have he0 : hBar eye = 0 := if_pos he
  have b1 : lookBar B [hBar eye] = 0 := by rw [lookBar1 hz, firstBar1, he0]
  have b2 : lookBar B [hBar eye, slopeBar s.1 s.2] = 0 := by rw [lookBar1 hz, firstBar2, hsb, he0]; rfl
  obtain ⟨f, hi, fd, e25, hnr⟩ := near_cases hz he hs
  obtain ⟨hden0, hden, hnear⟩ := hnr
  have q25 := fun H_ (hO_ : Opn H_ B ⟨pa, pc, ma, mc⟩) => s25 L H_ (eye := eye) (s := s) hO_
  have q29 := fun H_ (hO_ : Opn H_ B ⟨pa, pc, ma, mc⟩) => s29 L H_ (eye := eye) hO_
  simp only [b1, b2, ne_eq, not_true_eq_false, if_false, e25] at q25 q29
  have hcl := hidden_climbs B eye B.prof.length
  have hll := hiddenTo_len B eye B.prof.length
  have hmem : ∀ k, ∀ hk : k < B.prof.length, decide ((k : Int) ∈ hiddenTo B eye B.prof.length) = hidAt B eye B.prof[k] := by
    intro k hk
    have g1 : B.prof.getD k (0, 0) = B.prof[k] := by rw [List.getD_eq_getElem?_getD, List.getElem?_eq_getElem hk]; rfl
    rw [Bool.eq_iff_iff, decide_eq_true_eq, mem_hidden]
    constructor
    · rintro ⟨q, e, _, h2⟩
      obtain rfl : k = q := by omega
      rwa [g1] at h2
    · intro h2
      exact ⟨k, rfl, hk, by rwa [g1]⟩
  generalize hiddenTo B eye B.prof.length = hl at q29 hcl hll hmem
  refine At.cq rfl rfl rfl rfl rfl rfl rfl rfl (q25 _ hO.a) ?_
  have stop29 := trivial
  (iterate 5 refine At.v rfl rfl rfl rfl rfl trivial ?_); refine At.al rfl rfl rfl rfl rfl fun r11 => ?_; refine At.al rfl rfl rfl rfl rfl fun r12 => ?_; refine At.st 1 rfl rfl rfl rfl rfl rfl rfl rfl rfl rfl rfl rfl ?_; refine At.st 0 rfl rfl rfl rfl rfl rfl rfl rfl rfl rfl rfl rfl ?_; (iterate 2 refine At.v rfl rfl rfl rfl rfl trivial ?_); refine At.regionEnd (At.seq (At.region ?_)); refine At.ld 3 rfl rfl rfl rfl rfl rfl rfl rfl rfl ?_; refine At.v rfl rfl rfl rfl rfl trivial ?_
  clear stop29
  refine At.cl rfl rfl rfl rfl rfl rfl rfl rfl (q29 _ hO.a) ?_
  rintro _ _ ⟨sf1, ⟨a1, cap1, rfl, hsl1⟩, rfl⟩
  refine At.back ?_
  obtain ⟨_, r1, _⟩ := hsl1.rd
  have q45 := fun H_ (hr_ : Rd H_ a1 (hl.flatMap c1)) => s45 L H_ (a := a1) (n := hl.length) (cap := cap1) (xs := hl) (lim := B.prof.length) rfl hr_ (by omega) ⟨by omega, by omega⟩
  rw [hcl] at q45
  have stop45 := trivial
  (iterate 5 refine At.v rfl rfl rfl rfl rfl trivial ?_); refine At.regionEnd (At.seq (At.seq (At.region ?_))); refine At.v rfl rfl rfl rfl rfl trivial ?_; refine At.cp rfl rfl rfl rfl rfl fun b50 h50 => ?_; refine At.v rfl rfl rfl rfl rfl trivial ?_
  obtain rfl : b50 = false := h50.symm.trans (by kernel_rfl)
  refine At.v rfl rfl rfl rfl rfl trivial ?_; refine At.cp rfl rfl rfl rfl rfl fun b53 h53 => ?_; (iterate 2 refine At.v rfl rfl rfl rfl rfl trivial ?_)
  obtain rfl : b53 = false := h53.symm.trans (by kernel_rfl)
  refine At.v rfl rfl rfl rfl rfl trivial ?_; refine At.fa 0 rfl rfl rfl rfl rfl rfl rfl ?_; refine At.ld 3 rfl rfl rfl rfl rfl rfl rfl rfl rfl ?_; refine At.ln rfl rfl rfl rfl rfl rfl rfl rfl ?_
  clear stop45
  refine At.cq rfl rfl rfl rfl rfl rfl rfl rfl (q45 _ r1.a) ?_; refine At.cutk (X := Unit) [4, 8, 9, 10, 11, 12, 13, 14, 15, 16] (fun _ => [(80, .bool false)]) (fun _ => .own r12 (.cells (List.toArray (c2 hi)) 29 (0, 0)) :: .own r11 (.cells (List.toArray (c2 f)) 29 (0, 0)) :: .own r10 (.cells (List.toArray (c2 s)) 29 (0, 0)) :: .own r4 (.cells (List.toArray (bkC B ⟨pa, pc, ma, mc⟩)) 27 (0, 0)) :: (sf1 ++ H)) rfl ?_ fun key => ?_
  rotate_left
  · cases fd
    · refine At.cp rfl rfl rfl rfl rfl fun b61 h61 => ?_
      (iterate 2 refine At.v rfl rfl rfl rfl rfl trivial ?_)
      obtain rfl : b61 = false := h61.symm.trans (by kernel_rfl)
      (iterate 2 refine At.v rfl rfl rfl rfl rfl trivial ?_); (iterate 13 refine At.un rfl rfl rfl rfl ?_); (iterate 2 refine At.v rfl rfl rfl rfl rfl trivial ?_); refine At.regionEnd ?_
      refine At.tA ((key ()))
    · obtain ⟨d1, d2, d3⟩ := hden rfl
      refine At.cp rfl rfl rfl rfl rfl fun b61 h61 => ?_; (iterate 2 refine At.v rfl rfl rfl rfl rfl trivial ?_)
      obtain rfl : b61 = false := h61.symm.trans (by kernel_rfl)
      (iterate 2 refine At.v rfl rfl rfl rfl rfl trivial ?_); refine At.fa 1 rfl rfl rfl rfl rfl rfl rfl ?_; refine At.ld 1 rfl rfl rfl rfl rfl rfl rfl rfl rfl ?_; refine At.cp rfl rfl rfl rfl rfl fun b68 h68 => ?_; refine At.v rfl rfl rfl rfl rfl trivial ?_
      obtain rfl : b68 = false := h68.symm.trans (decide_eq_false (by omega))
      refine At.fa 1 rfl rfl rfl rfl rfl rfl rfl ?_; refine At.ld 1 rfl rfl rfl rfl rfl rfl rfl rfl rfl ?_; refine At.cp rfl rfl rfl rfl rfl fun b72 h72 => ?_; (iterate 2 refine At.v rfl rfl rfl rfl rfl trivial ?_)
      obtain rfl : b72 = false := h72.symm.trans (decide_eq_false (by omega))
      refine At.fa 1 rfl rfl rfl rfl rfl rfl rfl ?_; refine At.ld 0 rfl rfl rfl rfl rfl rfl rfl rfl rfl ?_; refine At.cp rfl rfl rfl rfl rfl fun b77 h77 => ?_; (iterate 3 refine At.v rfl rfl rfl rfl rfl trivial ?_); refine At.regionEnd ?_
      obtain rfl : b77 = false := by rw [← h77]; exact decide_eq_false (by omega)
      refine At.tA ((key ()))
  rintro ⟨⟩
  refine At.cond rfl ?_; refine At.skip (At.seq (At.seq (At.region ?_))); refine At.v rfl rfl rfl rfl rfl trivial ?_; refine At.regionEnd ?_; refine At.block ?_
  refine At.lpk (X := { x : Nat // x ≤ B.prof.length }) [4, 9, 10, 11, 13, 15] (fun x => [(17, .int .i64 (x.1 : Int))]) (fun x => .own r12 (.cells (List.toArray (c2 hi)) 29 (0, 0)) :: .own r11 (.cells (List.toArray (c2 f)) 29 (0, 0)) :: .own r10 (.cells (List.toArray (c2 s)) 29 (0, 0)) :: .own r4 (.cells (List.toArray (bkC B ⟨pa, pc, ma, mc⟩)) 27 (0, 0)) :: (sf1 ++ H)) (fun x => B.prof.length - x.1) (⟨0, Nat.zero_le _⟩) rfl ?_ (by repeat (first | exact trivial | refine ⟨rfl, ?_⟩)) sb
  rintro ⟨j, hj⟩ again
  simp only at again hj ⊢
  refine At.seq (At.seq (At.region ?_)); refine At.v rfl rfl rfl rfl rfl trivial ?_; refine At.fa 0 rfl rfl rfl rfl rfl rfl rfl ?_; refine At.ld 3 rfl rfl rfl rfl rfl rfl rfl rfl rfl ?_; refine At.ln rfl rfl rfl rfl rfl rfl rfl rfl ?_; refine At.cp rfl rfl rfl rfl rfl fun b85 h85 => ?_; refine At.regionEnd ?_
  cases b85
  · refine At.cond rfl ?_
    refine At.exit rfl ?_; refine At.seq (At.region ?_)
    subst hL
    refine At.cq rfl rfl rfl rfl rfl rfl rfl rfl (s22 hG.a) ?_; refine At.v rfl rfl rfl rfl rfl trivial ?_; refine At.regionEnd ?_
    exact hLB Tryz.func6 (.inr ⟨_, rfl⟩) rfl (.tmp rfl .nil) (⟨by rfl, rfl⟩)
  have hlt : j < B.prof.length := by simp at h85; omega
  obtain ⟨b, off, e, hcj⟩ := hrp.el (List.getElem?_eq_getElem hlt)
  subst e
  have hpm := List.getElem_mem hlt
  have hpj := hb.2.2.1 _ hpm
  have q41 := fun H_ => s41 L H_ (p := B.prof[j]) (eye := eye) (s := s) hpj he hs
  have hnj := hnear _ hpm
  have hpt := near_point hz he hpm
  have hmj := hmem j hlt
  have ag := again ⟨j + 1, hlt⟩ (by simp; omega)
  generalize B.prof[j] = p at hcj hpm hpj q41 hnj hpt hmj
  have hp' := hpj
  unfold PtOk at hp'
  have hE := he
  unfold EyeOk at hE
  generalize offL p eye s = o at q41 hnj
  have mp := mul_bd (a := p.1) (b := f.2) (A := 60) (B := 6000) (by omega) (by omega)
  have stop41 := trivial
  refine At.cond rfl ?_; refine At.skip (At.seq ?_); refine At.block ?_; refine At.seq (At.region ?_); refine At.fa 0 rfl rfl rfl rfl rfl rfl rfl ?_; refine At.ld 3 rfl rfl rfl rfl rfl rfl rfl rfl rfl ?_; refine At.v rfl rfl rfl rfl rfl trivial ?_; refine At.q rfl rfl rfl rfl (q_ia rfl rfl rfl (by assumption)) ?_; refine At.ldc rfl rfl rfl rfl rfl rfl hcj.a rfl rfl ?_; refine At.al rfl rfl rfl rfl rfl fun r18 => ?_; refine At.st 0 rfl rfl rfl rfl rfl rfl rfl rfl rfl rfl rfl rfl ?_
  refine At.regionEnd (At.seq (At.seq (At.region ?_))); refine At.ld 0 rfl rfl rfl rfl rfl rfl rfl rfl rfl ?_; refine At.v rfl rfl rfl rfl rfl trivial ?_; refine At.ld 3 rfl rfl rfl rfl rfl rfl rfl rfl rfl ?_
  clear stop41
  refine At.cq rfl rfl rfl rfl rfl rfl rfl rfl (q41 _) ?_
  refine At.cutk (X := Unit) [4, 9, 10, 11, 13, 15, 17, 18, 81, 82, 83, 84, 85, 88, 89, 90, 91, 92] (fun _ => [(111, .bool false)]) (fun _ => .own r18 (.cells (List.toArray (c2 p)) 57 (0, 0)) :: .own r12 (.cells (List.toArray (c2 hi)) 29 (0, 0)) :: .own r11 (.cells (List.toArray (c2 f)) 29 (0, 0)) :: .own r10 (.cells (List.toArray (c2 s)) 29 (0, 0)) :: .own r4 (.cells (List.toArray (bkC B ⟨some ⟨b, off, none⟩, pc, ma, mc⟩)) 27 (0, 0)) :: (sf1 ++ H)) rfl ?_ fun key => ?_
  rotate_left
  · by_cases ho : o = 0
    · obtain ⟨rfl, hfle⟩ := hnj ho
      have e2 : sgnM o = 0 := by unfold sgnM; rw [if_neg (by omega), if_pos ho]
      rw [e2]
      refine At.cp rfl rfl rfl rfl rfl fun b97 h97 => ?_; refine At.v rfl rfl rfl rfl rfl trivial ?_
      obtain rfl : b97 = true := h97.symm.trans (by kernel_rfl)
      (iterate 3 refine At.v rfl rfl rfl rfl rfl trivial ?_); refine At.fa 0 rfl rfl rfl rfl rfl rfl rfl ?_; refine At.ld 2 rfl rfl rfl rfl rfl rfl rfl rfl rfl ?_; refine At.fa 0 rfl rfl rfl rfl rfl rfl rfl ?_; refine At.ld 0 rfl rfl rfl rfl rfl rfl rfl rfl rfl ?_; refine At.fa 1 rfl rfl rfl rfl rfl rfl rfl ?_; refine At.ld 2 rfl rfl rfl rfl rfl rfl rfl rfl rfl ?_; refine At.v rfl rfl rfl rfl rfl (by omega) ?_; refine At.cp rfl rfl rfl rfl rfl fun b109 h109 => ?_
      (iterate 2 refine At.v rfl rfl rfl rfl rfl trivial ?_); refine At.regionEnd ?_
      obtain rfl : b109 = false := by rw [← h109]; exact decide_eq_false (by omega)
      refine At.tA ((key ()))
    · have e2 : sgnM o ≠ 0 := by unfold sgnM; split <;> (try split) <;> omega
      refine At.cp rfl rfl rfl rfl rfl fun b97 h97 => ?_; refine At.v rfl rfl rfl rfl rfl trivial ?_
      obtain rfl : b97 = false := h97.symm.trans (decide_eq_false (by omega))
      (iterate 12 refine At.un rfl rfl rfl rfl ?_); refine At.v rfl rfl rfl rfl rfl trivial ?_; refine At.regionEnd ?_
      refine At.tA ((key ()))
  rintro ⟨⟩
  obtain ⟨⟨k1, k2⟩, hk⟩ : ∃ y, low (p.2 - eye) p.1 = y := ⟨_, rfl⟩
  rw [hk] at hpt
  simp only at hpt
  have q46 := fun H_ => s46 L H_ (n := p.2 - eye) (d := p.1) (by omega) ⟨by omega, by omega⟩ ⟨by omega, by omega⟩
  have e46 : Value.agg #[.int .i64 (lowN (p.2 - eye) p.1), .int .i64 (lowD (p.2 - eye) p.1)] = rV (low (p.2 - eye) p.1) := rfl
  rw [e46, hk] at q46
  have q48 := fun H_ (hr_ : Rd H_ a1 (hl.flatMap c1)) => s48 L H_ (a := a1) (n := hl.length) (cap := cap1) (xs := hl) (x := (j : Int)) rfl hr_ (by omega)
  rw [hmj] at q48
  have stop46 := trivial
  refine At.cond rfl ?_; refine At.skip (At.seq (At.region ?_)); refine At.fa 1 rfl rfl rfl rfl rfl rfl rfl ?_; refine At.ld 0 rfl rfl rfl rfl rfl rfl rfl rfl rfl ?_; refine At.v rfl rfl rfl rfl rfl trivial ?_; refine At.v rfl rfl rfl rfl rfl (by omega) ?_; refine At.fa 0 rfl rfl rfl rfl rfl rfl rfl ?_; refine At.ld 0 rfl rfl rfl rfl rfl rfl rfl rfl rfl ?_
  clear stop46
  refine At.cq rfl rfl rfl rfl rfl rfl rfl rfl (q46 _) ?_; refine At.al rfl rfl rfl rfl rfl fun r19 => ?_; refine At.st 0 rfl rfl rfl rfl rfl rfl rfl rfl rfl rfl rfl rfl ?_; refine At.regionEnd (At.seq (At.seq (At.region ?_))); refine At.ld 0 rfl rfl rfl rfl rfl rfl rfl rfl rfl ?_; refine At.cq rfl rfl rfl rfl rfl rfl rfl rfl (s47 L _) ?_; refine At.cp rfl rfl rfl rfl rfl fun b121 h121 => ?_; refine At.regionEnd ?_
  cases b121
  rotate_left
  · refine At.cond rfl ?_
    refine At.exit rfl ?_; refine At.region ?_; refine At.v rfl rfl rfl rfl rfl trivial ?_; refine At.v rfl rfl rfl rfl rfl (by omega) ?_; refine At.v rfl rfl rfl rfl rfl trivial ?_; refine At.regionEnd ?_
    refine At.tA (ag)
  have hks : slopeBar k1 k2 = 0 := by simpa using h121
  obtain ⟨x, hx, hxe⟩ := hpt hks
  have b3 : lookBar B [hBar eye, slopeBar k1 k2] = 0 := by rw [lookBar1 hz, firstBar2, hks, he0]; rfl
  have p25 := fun H_ (hO_ : Opn H_ B ⟨some ⟨b, off, none⟩, pc, ma, mc⟩) => s25 L H_ (eye := eye) (s := (k1, k2)) hO_
  simp only [b3, ne_eq, not_true_eq_false, if_false, hx, Option.getD_some, Option.isSome_some] at p25
  obtain ⟨⟨x1, x2⟩, ⟨y1, y2⟩⟩ := x
  simp only at p25 hxe
  generalize hidAt B eye p = hd at q48 hxe
  have stop25 := trivial
  refine At.cond rfl ?_; refine At.skip (At.seq (At.region ?_)); refine At.ld 5 rfl rfl rfl rfl rfl rfl rfl rfl rfl ?_; refine At.v rfl rfl rfl rfl rfl trivial ?_; refine At.ld 0 rfl rfl rfl rfl rfl rfl rfl rfl rfl ?_
  clear stop25
  refine At.cq rfl rfl rfl rfl rfl rfl rfl rfl (p25 _ hO.a) ?_
  have stop48 := trivial
  (iterate 5 refine At.v rfl rfl rfl rfl rfl trivial ?_); refine At.al rfl rfl rfl rfl rfl fun r20 => ?_; refine At.al rfl rfl rfl rfl rfl fun r21 => ?_; refine At.st 1 rfl rfl rfl rfl rfl rfl rfl rfl rfl rfl rfl rfl ?_; refine At.st 0 rfl rfl rfl rfl rfl rfl rfl rfl rfl rfl rfl rfl ?_; (iterate 2 refine At.v rfl rfl rfl rfl rfl trivial ?_); refine At.regionEnd (At.seq ?_); refine At.drawJ hmix [] rfl ?_; refine Pool.v 0 rfl rfl rfl rfl rfl rfl rfl trivial ?_
  refine Pool.cp 1 rfl rfl rfl rfl rfl rfl rfl fun b132 h132 => ?_; refine Pool.v 2 rfl rfl rfl rfl rfl rfl rfl trivial ?_
  obtain rfl : b132 = false := h132.symm.trans (by kernel_rfl)
  refine Pool.v 3 rfl rfl rfl rfl rfl rfl rfl trivial ?_; refine Pool.v 4 rfl rfl rfl rfl rfl rfl rfl trivial ?_; refine Pool.v 5 rfl rfl rfl rfl rfl rfl rfl trivial ?_; refine Pool.v 6 rfl rfl rfl rfl rfl rfl rfl trivial ?_; refine Pool.v 7 rfl rfl rfl rfl rfl rfl rfl trivial ?_; refine Pool.v 8 rfl rfl rfl rfl rfl rfl rfl trivial ?_; refine Pool.ld 1 10 rfl rfl rfl rfl rfl rfl rfl rfl rfl rfl rfl ?_; refine Pool.fa 0 11 rfl rfl rfl rfl rfl rfl rfl rfl rfl ?_
  refine Pool.ld 3 12 rfl rfl rfl rfl rfl rfl rfl rfl rfl rfl rfl ?_; refine Pool.cq 13 rfl rfl rfl rfl rfl rfl rfl rfl rfl (fun H hs => s49 L H) ?_; refine Pool.qb 14 rfl rfl rfl rfl rfl (q_eqS rfl rfl rfl rfl rfl rfl rfl rfl) rfl fun b145 h145 => ?_; refine Pool.v 15 rfl rfl rfl rfl rfl rfl rfl trivial ?_
  clear stop48
  refine Pool.cq 9 rfl rfl rfl rfl rfl rfl rfl rfl rfl (fun H_ hs_ => q48 H_ r1.a) ?_
  skip
  have hb1 : decide ((x1, x2) = (p.1, (1 : Int))) = b145 := by rw [← h145, decide_eq_decide]; simp
  rw [hb1] at hxe
  cases b145
  · obtain rfl : hd = true := by simpa using hxe.symm
    refine Pool.un 16 rfl rfl rfl rfl rfl rfl ?_; refine Pool.un 17 rfl rfl rfl rfl rfl rfl ?_; refine Pool.un 18 rfl rfl rfl rfl rfl rfl ?_; refine Pool.un 19 rfl rfl rfl rfl rfl rfl ?_; refine Pool.un 20 rfl rfl rfl rfl rfl rfl ?_; refine Pool.v 21 rfl rfl rfl rfl rfl rfl rfl trivial ?_; refine Pool.qb 22 rfl rfl rfl rfl rfl (q_eqlB rfl rfl rfl) rfl fun b153 h153 => ?_; refine Pool.v 23 rfl rfl rfl rfl rfl rfl rfl trivial ?_; refine pool_done rfl rfl ?_; refine At.regionEnd ?_
    obtain rfl : b153 = false := h153.symm.trans (by kernel_rfl)
    refine At.cond rfl ?_; refine At.skip ?_; refine At.inBlock ?_; refine At.region ?_; refine At.v rfl rfl rfl rfl rfl trivial ?_; refine At.v rfl rfl rfl rfl rfl (by omega) ?_; refine At.v rfl rfl rfl rfl rfl trivial ?_; refine At.regionEnd ?_
    refine At.tA (ag)
  · rw [Bool.true_and] at hxe
    have hb2 : ∀ v, decide ([(y1, y2).1, (y1, y2).2] = [p.2, 1]) = v → v = !hd := by
      intro v hv
      rw [← hxe, ← hv, decide_eq_decide]; simp
    refine Pool.ld 0 16 rfl rfl rfl rfl rfl rfl rfl rfl rfl rfl rfl ?_; refine Pool.fa 1 17 rfl rfl rfl rfl rfl rfl rfl rfl rfl ?_; refine Pool.ld 3 18 rfl rfl rfl rfl rfl rfl rfl rfl rfl rfl rfl ?_; refine Pool.cq 19 rfl rfl rfl rfl rfl rfl rfl rfl rfl (fun H hs => s49 L H) ?_; refine Pool.qb 20 rfl rfl rfl rfl rfl (q_eqS rfl rfl rfl rfl rfl rfl rfl rfl) rfl fun b151 h151 => ?_; refine Pool.v 21 rfl rfl rfl rfl rfl rfl rfl trivial ?_
    refine Pool.qb 22 rfl rfl rfl rfl rfl (q_eqlB rfl rfl rfl) rfl fun b153 h153 => ?_; refine Pool.v 23 rfl rfl rfl rfl rfl rfl rfl trivial ?_; refine pool_done rfl rfl ?_; refine At.regionEnd ?_
    obtain rfl : b153 = false := by
      rw [← h153, hb2 _ h151]
      cases hd <;> rfl
    refine At.cond rfl ?_; refine At.skip ?_; refine At.inBlock ?_; refine At.region ?_; refine At.v rfl rfl rfl rfl rfl trivial ?_; refine At.v rfl rfl rfl rfl rfl (by omega) ?_; refine At.v rfl rfl rfl rfl rfl trivial ?_; refine At.regionEnd ?_
    refine At.tA (ag)
end Go.Gx
end

section
set_option linter.unusedSimpArgs false
set_option linter.unusedVariables false
namespace Go.Gx
open Go Go.Conc Go.Proofs Go.ChangeShapes Go.RowKit YtokdmiiejfmomaaGreatDoor
set_option maxRecDepth 100000
theorem ip6 : Tryz.prog.inPlace 6 = [] := by kernel_rfl
theorem uf6 : Tryz.prog.unfollowed 6 = true := by kernel_rfl
theorem rc6 : Tryz.prog.recurses 6 = true := by kernel_rfl
theorem vn6 : Tryz.prog.varsNamed 6 = ["velarium/canvas.checks"] := by kernel_rfl
theorem closed6 : joinedFacts Tryz.prog 6 Tryz.f6 Rows.canvasNearestSpec Rows.canvasNearestRow = true := by
  unfold joinedFacts
  rewrite [ip6, uf6, rc6, vn6, enter1, lf1, make1]
  kernel_rfl
theorem fnm6 : Tryz.prog.funcNamed "velarium/velariumlaw02.CanvasNearest" = some 6 := by kernel_rfl
theorem inst6 : Tryz.f6.isInstance Tryz.prog Rows.canvasNearestRow.origin Rows.canvasNearestRow.targs := of_decide_eq_true (by kernel_rfl)
theorem wrap6 : Tryz.f6.isWrapper Tryz.prog Rows.canvasNearestRow.wrapper Rows.canvasNearestRow.mainSum := by unfold Func.isWrapper; first | (rw [if_pos (by decide +kernel)]; kernel_rfl) | (rw [if_neg (by decide +kernel)]; exact ⟨rfl, rfl⟩)
theorem goes6 : Tryz.prog.goes 6 = true := by kernel_rfl
theorem wbt6 : Rows.canvasNearestRow.wfByText (OpenSpec.ofChange Rows.canvasNearestSpec) = true := by kernel_rfl
theorem wants6 : (Tryz.f6.params.toList.all fun t => !Tryz.prog.wantsStandIn t) = true := by kernel_rfl
theorem lifted6 (os : Os) (started : os.Started) (H : Type) (enc : TypeId × Value → H) :
    ReturnsInLeavingWide {} Tryz.checked os 6 .any (fun w args => (Rows.canvasNearestSpec.pre enc Tryz.prog Tryz.f6 [] false w args ∧ laidMetH Tryz.prog laid1 w) ∧ sizedMet enc Tryz.prog Tryz.f6 (OpenSpec.ofChange Rows.canvasNearestSpec) false w args) (Rows.canvasNearestSpec.post enc Tryz.prog Tryz.f6 false true false false) := by
  refine law_lift Tryz.func6 (by kernel_rfl) rfl rfl (by kernel_rfl) os started H enc #[.agg #[.slice none 0 0, .int .i64 0, .int .i64 0, .int .i64 0, .slice none 0 0], .int .u8 0, .int .u8 0, .int .i8 0]
    (World.shaped_of_RefB (by kernel_rfl) (by kernel_rfl)) (by kernel_rfl) (by kernel_rfl) (by kernel_rfl) ?_
  intro W base args ds ps hval hA
  rw [Tryz.params6] at hval hA
  obtain ⟨v0, vs0, d0, ds0, p0, q0, e0, rfl, rfl, h0, hA⟩ := trodAll_cons hA
  obtain ⟨v1, vs1, d1, ds1, p1, q1, rfl, rfl, rfl, h1, hA⟩ := trodAll_cons hA
  obtain ⟨v2, vs2, d2, ds2, p2, q2, rfl, rfl, rfl, h2, hA⟩ := trodAll_cons hA
  obtain ⟨v3, vs3, d3, ds3, p3, q3, rfl, rfl, rfl, h3, hA⟩ := trodAll_cons hA
  obtain ⟨rfl, rfl, rfl⟩ := trodAll_nil hA
  obtain rfl : args = #[v0, v1, v2, v3] := Array.toList_inj.1 e0
  obtain ⟨B0, A0, Hs0, rfl, hsh0, hb0⟩ := open_book (hval 0 27 _ rfl rfl) h0
  obtain ⟨n1, rfl, rfl, rfl, w1⟩ := open_int Tryz.underlying5 (hval 1 5 _ rfl rfl) h1
  obtain ⟨n2, rfl, rfl, rfl, w2⟩ := open_int Tryz.underlying5 (hval 2 5 _ rfl rfl) h2
  obtain ⟨n3, rfl, rfl, rfl, w3⟩ := open_int Tryz.underlying53 (hval 3 53 _ rfl rfl) h3
  exact ⟨rfl, Hs0, hsh0, fun Post => law6 hsh0.glo hsh0.ro (hb0.a (Sub.append_left _ _)) (wf_u8 w1) (wf_u8 w2) (wf_i8 w3)⟩
theorem said6 : Rows.CanvasNearestSaid :=
  OpenClaim.holds_of_wide_leaving 6 Tryz.f6 rfl rfl rfl rfl rfl rfl rfl ⟨rfl, rfl, rfl, rfl, rfl⟩ rfl rfl rfl rfl rfl fnm6 Tryz.func6 closed6 inst6 wrap6
    (fun os started H enc _ => lifted6 os started H enc)
theorem card6 : Rows.CanvasNearestCardSaid :=
  ⟨Claim7.tied_new_at .later [.funcs] true (Claim7.new_of_sixth said6 (true, "2aeeda9e0b315eb022070bc88bc80a554dcd329f773ad53586088327a2b29430") false rfl ⟨rfl, rfl⟩ mi1 rfl
    (fun f fn hf hfn => by
      obtain rfl : f = 6 := Option.some.inj (hf.symm.trans fnm6)
      obtain rfl : fn = Tryz.f6 := Option.some.inj (hfn.symm.trans Tryz.func6)
      exact ⟨looks1.symm, wants_of wants6⟩)) wbt6, (fun _ h => by cases h), canvasNearest_row_tie, (fun h => by cases h), goes_of fnm6 goes6⟩
end Go.Gx
namespace Go.Proofs.YtokdmiiejfmomaaGreatDoor
/-- THE CARD OF CanvasNearest. -/
theorem canvasNearest_card : Rows.CanvasNearestCardSaid := Go.Gx.card6
#print axioms canvasNearest_card
end Go.Proofs.YtokdmiiejfmomaaGreatDoor
end
