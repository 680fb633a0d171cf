/-
  The point that is met is on the line, and on a piece of the profile, to the last of its fractions, which are in lowest terms; the line meets the canvas just if a point of the profile is not above it, and another one is not below it; the row and the part say how high it is: CanvasExact holds.
-/
import Derived.Test.YtokdmiiejfmomaaGreatDoorW6
import Derived.SevenTiedAt
section
set_option linter.unusedSimpArgs false
set_option linter.unusedVariables false
namespace Go.Gx
open Go Go.Conc Go.Proofs Go.ChangeShapes Go.RowKit YtokdmiiejfmomaaGreatDoor
set_option maxRecDepth 100000
theorem Shr.ro {W : World} {Hs : Facts} (h : Shr W Hs) : ∀ f ∈ ([.seg 0 0 chkC] ++ Hs : Facts), f.isOwn = false := by
  intro f hf
  rcases List.mem_append.1 hf with hf | hf
  · rw [List.mem_singleton] at hf; subst hf; rfl
  · exact (h f hf).1
section
variable {H : Type} {enc : TypeId × Value → H} {W : World} {sp : Nat → Bool} {held : Bool}

end
end Go.Gx
end

section
set_option linter.unusedSimpArgs false
set_option linter.unusedVariables false
namespace Go.Gx
open Go Go.Conc Go.Proofs

instance : BoI Tryz.prog 4 := ⟨by kernel_rfl⟩
theorem low_slope {n d : Int} (h1 : -20 ≤ n ∧ n ≤ 20) (h2 : 1 ≤ d ∧ d ≤ 20) : slopeBar (low n d).1 (low n d).2 = 0 := by
  have key : ∀ a ∈ (List.range 41), ∀ b ∈ (List.range 20), slopeBar (low ((a : Int) - 20) ((b : Int) + 1)).1 (low ((a : Int) - 20) ((b : Int) + 1)).2 = 0 := by decide +kernel
  have := key (n + 20).toNat (by rw [List.mem_range]; omega) (d - 1).toNat (by rw [List.mem_range]; omega)
  rwa [show (((n + 20).toNat : Nat) : Int) - 20 = n by omega, show (((d - 1).toNat : Nat) : Int) + 1 = d by omega] at this
end Go.Gx
end

section
set_option linter.unusedSimpArgs false
set_option linter.unusedVariables false
namespace Go.Gx
open Go Go.Conc Go.Proofs
variable {main : Bool}

/-! ### the reference's piece and point that is met, and that they are the program's -/
theorem low_one (n : Int) : low n 1 = (n, 1) := by
  have := low_mul (e := n) (d := 1) (by decide)
  rwa [Int.mul_one] at this
theorem low_neg {n d : Int} (hd : d ≠ 0) : low (-n) (-d) = low n d := by
  unfold low lowN lowD
  rw [Int.neg_gcd, Int.gcd_neg]
  by_cases h : d < 0
  · rw [if_pos h, if_pos h, if_neg (by omega), if_neg (by omega)]
  · rw [if_neg h, if_neg h, if_pos (by omega), if_pos (by omega), Int.neg_neg, Int.neg_neg]
theorem pairs_ok {ps : List R2} (hp : ∀ p ∈ ps, PtOk p) (hpw : ps.Pairwise (fun p q => p.2 < q.2)) : ∀ x ∈ ps.zip ps.tail, PtOk x.1 ∧ PtOk x.2 ∧ x.1.2 < x.2.2 := by
  rintro ⟨p, q⟩ hx
  refine ⟨hp _ (List.of_mem_zip hx).1, hp _ (List.mem_of_mem_tail (List.of_mem_zip hx).2), ?_⟩
  obtain ⟨i, hi, e⟩ := List.getElem_of_mem hx
  simp only [List.getElem_zip, List.getElem_tail, Prod.mk.injEq] at e
  obtain ⟨rfl, rfl⟩ := e
  simp at hi
  exact List.pairwise_iff_getElem.1 hpw i (i + 1) (by omega) (by omega) (by omega)
end Go.Gx
end

section
set_option linter.unusedSimpArgs false
set_option linter.unusedVariables false
namespace Go.Gx
open Go Go.Conc Go.Proofs
variable {main : Bool}

end Go.Gx
end

section
set_option linter.unusedSimpArgs false
set_option linter.unusedVariables false
namespace Go.Gx
open Go Go.Conc Go.Proofs
variable {main : Bool}

end Go.Gx
end

section
set_option linter.unusedSimpArgs false
set_option linter.unusedVariables false
namespace Go.Gx
open Go Go.Conc Go.Proofs
variable {main : Bool}

end Go.Gx
end

section
set_option linter.unusedSimpArgs false
set_option linter.unusedVariables false
namespace Go.Gx
open Go Go.Conc Go.Proofs
variable {main : Bool}

end Go.Gx
end

section
/-
  LOGIC G: what a call has made is put behind the cells that one knows by their places.
-/
set_option linter.unusedSimpArgs false
set_option linter.unusedVariables false
namespace Go.Gx
open Go Go.Conc
/-- 'Y' is 'sf ++ X' with the own cells that stand first in 'X' ahead of 'sf'. -/
class Back (sf X : Facts) (Y : outParam Facts) : Prop where
  s : Sub Y (sf ++ X)
instance (priority := low) backNil {sf X : Facts} : Back sf X (sf ++ X) := ⟨Sub.refl _⟩
instance backCons {sf X Y : Facts} {r : Nat} {o : Obj} [h : Back sf X Y] : Back sf (.own r o :: X) (.own r o :: Y) :=
  ⟨(Sub.cons _ h.s).trans (Sub.of_perm List.perm_middle.symm)⟩
end Go.Gx
end

section
set_option linter.unusedSimpArgs false
set_option linter.unusedVariables false
namespace Go.Gx
open Go Go.Conc Go.Proofs

end Go.Gx
end

section
set_option linter.unusedSimpArgs false
set_option linter.unusedVariables false
namespace Go.Gx
open Go Go.Conc Go.Proofs
variable {main : Bool}

end Go.Gx
end

section
set_option linter.unusedSimpArgs false
set_option linter.unusedVariables false
namespace Go.Gx
open Go Go.Conc Go.Proofs
variable {main : Bool}

theorem low_cross {n d : Int} (hd : d ≠ 0) : (low n d).1 * d = n * (low n d).2 := by
  unfold low lowN lowD
  have hg : 0 < Int.gcd n d := Int.gcd_pos_of_ne_zero_right n hd
  have h1 : ((Int.gcd n d : Nat) : Int) ∣ n := Int.gcd_dvd_left ..
  have h2 : ((Int.gcd n d : Nat) : Int) ∣ d := Int.gcd_dvd_right ..
  generalize ((Int.gcd n d : Nat) : Int) = g at *
  have hg0 : g ≠ 0 := by rintro rfl; exact hd (Int.zero_dvd.1 h2)
  obtain ⟨a, rfl⟩ := h1
  obtain ⟨b, rfl⟩ := h2
  split
  · rw [← Int.mul_neg, ← Int.mul_neg, Int.mul_tdiv_cancel_left _ hg0, Int.mul_tdiv_cancel_left _ hg0]
    simp only [Int.neg_mul, Int.mul_neg]
    rw [Int.mul_left_comm, Int.mul_assoc]
  · simp only
    rw [Int.mul_tdiv_cancel_left _ hg0, Int.mul_tdiv_cancel_left _ hg0, Int.mul_left_comm, Int.mul_assoc]
end Go.Gx
end

section
set_option linter.unusedSimpArgs false
set_option linter.unusedVariables false
namespace Go.Gx
open Go Go.Conc Go.Proofs

end Go.Gx
end

section
set_option linter.unusedSimpArgs false
set_option linter.unusedVariables false
namespace Go.Gx
open Go Go.Conc Go.Proofs
variable {main : Bool}

end Go.Gx
end

section
set_option linter.unusedSimpArgs false
set_option linter.unusedVariables false
namespace Go.Gx
open Go Go.Conc Go.Proofs
variable {main : Bool}

/-! ### where a line meets the canvas, and in which row -/
theorem low_den_pos {n d : Int} (hd : d ≠ 0) : 1 ≤ (low n d).2 := lowD_pos hd
theorem frac_le {n d a : Int} (hd : d ≠ 0) (h : 0 < d ∧ a * d ≤ n ∨ d < 0 ∧ n ≤ a * d) : a * (low n d).2 ≤ (low n d).1 := by
  have hc := low_cross (n := n) hd
  have hp := low_den_pos (n := n) hd
  generalize (low n d).1 = x at *
  generalize (low n d).2 = y at *
  have hy : 0 ≤ y := by omega
  have e : a * y * d = a * d * y := Int.mul_right_comm ..
  rcases h with ⟨h0, h⟩ | ⟨h0, h⟩
  · have := Int.mul_le_mul_of_nonneg_right h hy
    rw [← hc, ← e] at this
    exact Int.le_of_mul_le_mul_right this h0
  · have := Int.mul_le_mul_of_nonneg_right h hy
    rw [← hc, ← e] at this
    have h3 : a * y * -d ≤ x * -d := by rw [Int.mul_neg, Int.mul_neg]; omega
    exact Int.le_of_mul_le_mul_right h3 (by omega)
theorem le_frac {n d a : Int} (hd : d ≠ 0) (h : 0 < d ∧ n ≤ a * d ∨ d < 0 ∧ a * d ≤ n) : (low n d).1 ≤ a * (low n d).2 := by
  have hc := low_cross (n := n) hd
  have hp := low_den_pos (n := n) hd
  generalize (low n d).1 = x at *
  generalize (low n d).2 = y at *
  have hy : 0 ≤ y := by omega
  have e : a * y * d = a * d * y := Int.mul_right_comm ..
  rcases h with ⟨h0, h⟩ | ⟨h0, h⟩
  · have := Int.mul_le_mul_of_nonneg_right h hy
    rw [← hc, ← e] at this
    exact Int.le_of_mul_le_mul_right this h0
  · have := Int.mul_le_mul_of_nonneg_right h hy
    rw [← hc, ← e] at this
    have h3 : x * -d ≤ a * y * -d := by rw [Int.mul_neg, Int.mul_neg]; omega
    exact Int.le_of_mul_le_mul_right h3 (by omega)
/-- A point of a piece is between its ends. -/
theorem cross_high {p q : R2} {eye : Int} {s : R2} (hpq : p.2 < q.2) : ∀ x ∈ crossM p q eye s, p.2 * x.2.2 ≤ x.2.1 ∧ x.2.1 ≤ q.2 * x.2.2 := by
  intro x hx
  unfold crossM at hx
  rw [if_neg (by rintro rfl; omega)] at hx
  generalize ha : offL p eye s = a at hx
  generalize hb : offL q eye s = b at hx
  split at hx
  · simp only [List.mem_cons, List.not_mem_nil, or_false] at hx
    rcases hx with rfl | rfl <;> simp only <;> omega
  rename_i h0
  split at hx
  · rename_i hc
    rw [List.mem_singleton] at hx
    subst hx
    simp only
    have hd : a - b ≠ 0 := by omega
    have hpos : 0 < q.2 - p.2 := by omega
    have e1 : p.2 * (a - b) + (q.2 - p.2) * a - q.2 * (a - b) = (q.2 - p.2) * b := by
      rw [Int.sub_mul, Int.sub_mul, Int.mul_sub, Int.mul_sub]
      omega
    refine ⟨frac_le hd ?_, le_frac hd ?_⟩
    · rcases hc with hc | hc
      · refine .inr ⟨by omega, ?_⟩
        have := Int.mul_le_mul_of_nonneg_left hc.1 (Int.le_of_lt hpos)
        rw [Int.mul_zero] at this
        omega
      · refine .inl ⟨by omega, ?_⟩
        have := Int.mul_le_mul_of_nonneg_left hc.1 (Int.le_of_lt hpos)
        rw [Int.mul_zero] at this
        omega
    · rcases hc with hc | hc
      · refine .inr ⟨by omega, ?_⟩
        have := Int.mul_le_mul_of_nonneg_left hc.2 (Int.le_of_lt hpos)
        rw [Int.mul_zero] at this
        omega
      · refine .inl ⟨by omega, ?_⟩
        have := Int.mul_le_mul_of_nonneg_left hc.2 (Int.le_of_lt hpos)
        rw [Int.mul_zero] at this
        omega
  · cases hx
theorem meet_mem {ps : List R2} {eye : Int} {s : R2} {x : Spot} (h : meetM ps eye s = some x) : ∃ p q, (p, q) ∈ ps.zip ps.tail ∧ x ∈ crossM p q eye s := by
  have hx : x ∈ piecesM ps eye s := by
    unfold meetM at h
    split at h
    · cases h
    · rename_i y l e
      cases h
      rw [e]
      exact bestM_mem _ _ _
  unfold piecesM at hx
  obtain ⟨⟨p, q⟩, hpq, hx⟩ := List.mem_flatMap.1 hx
  exact ⟨p, q, hpq, hx⟩
theorem foot_le {B : Bk} (hz : bookBar B = 0) : ∀ p ∈ B.prof, footM B ≤ p.2 := by
  have hpw := prof_pw hz
  have h2 := (bounds_of_bar hz).1
  unfold footM
  cases hB : B.prof with
  | nil => simp
  | cons p0 ps =>
    rw [hB] at hpw
    intro p hp
    rcases List.mem_cons.1 hp with rfl | hp
    · exact Int.le_refl _
    · exact Int.le_of_lt ((List.pairwise_cons.1 hpw).1 p hp)
theorem foot_pos {B : Bk} (hz : bookBar B = 0) : 0 ≤ footM B := by
  have h2 := (bounds_of_bar hz).1
  have hp := (bounds_of_bar hz).2.2.1
  unfold footM
  cases hB : B.prof with
  | nil => rw [hB] at h2; simp at h2
  | cons p0 ps =>
    have := hp p0 (by rw [hB]; exact List.mem_cons_self ..)
    unfold PtOk at this
    simp only [List.headD_cons]
    omega
/-- How high a line meets the canvas. -/
theorem meet_high {B : Bk} (hz : bookBar B = 0) {eye : Int} {s : R2} {x : Spot} (h : meetM B.prof eye s = some x) : footM B * x.2.2 ≤ x.2.1 ∧ x.2.1 ≤ 90 * x.2.2 ∧ 1 ≤ x.2.2 ∨ x.2.2 ≤ 0 := by
  obtain ⟨p, q, hpq, hx⟩ := meet_mem h
  obtain ⟨hp, hq, hlt⟩ := pairs_ok (bounds_of_bar hz).2.2.1 (prof_pw hz) _ hpq
  obtain ⟨h1, h2⟩ := cross_high hlt x hx
  simp only at h1 h2
  by_cases h0 : 1 ≤ x.2.2
  · left
    have hf := foot_le hz p (List.of_mem_zip hpq).1
    simp only at hp hq hlt
    unfold PtOk at hp hq
    have a1 := Int.mul_le_mul_of_nonneg_right hf (show 0 ≤ x.2.2 by omega)
    have a2 := Int.mul_le_mul_of_nonneg_right (show q.2 ≤ 90 by omega) (show 0 ≤ x.2.2 by omega)
    omega
  · right; omega
/-- The row of what is met is a row. -/
theorem row_ok {B : Bk} (hz : bookBar B = 0) {eye : Int} {s : R2} (he : EyeOk eye) (hs : SlOk s) : rowM B eye s = -1 ∨ 0 ≤ rowM B eye s ∧ rowM B eye s ≤ 90 := by
  cases hm : meetM B.prof eye s with
  | none => left; exact rowM_none hm
  | some x =>
    right
    rw [rowM_some hm]
    have hok := meetM_ok (bounds_of_bar hz).2.2.1 he hs hm
    have hh := meet_high hz hm
    have hb := bounds_of_bar hz
    have hf := foot_pos hz
    obtain ⟨-, -, -, h2⟩ := hok
    unfold squareM
    simp only
    generalize hsz : B.size = z at *
    have hd : 0 < z * x.2.2 := Int.mul_pos (by omega) (by omega)
    have hn : 0 ≤ x.2.1 - footM B * x.2.2 := by omega
    refine ⟨Int.tdiv_nonneg hn (Int.le_of_lt hd), ?_⟩
    have h3 : x.2.1 - footM B * x.2.2 ≤ 90 * (z * x.2.2) := by
      have a1 : 0 ≤ footM B * x.2.2 := Int.mul_nonneg hf (by omega)
      have a2 : 1 * x.2.2 ≤ z * x.2.2 := Int.mul_le_mul_of_nonneg_right (by omega) (by omega)
      omega
    rw [Int.tdiv_eq_ediv_of_nonneg hn]
    have := Int.ediv_le_ediv hd h3
    rwa [Int.mul_ediv_cancel _ (by omega)] at this
theorem row_isSome {B : Bk} (hz : bookBar B = 0) {eye : Int} {s : R2} (he : EyeOk eye) (hs : SlOk s) : (meetM B.prof eye s).isSome = decide (0 ≤ rowM B eye s) := by
  cases hm : meetM B.prof eye s with
  | none => rw [rowM_none hm]; rfl
  | some x =>
    have := row_ok hz he hs
    have h1 : rowM B eye s ≠ -1 ∨ rowM B eye s = -1 := by omega
    rw [rowM_some hm] at *
    have hok := meetM_ok (bounds_of_bar hz).2.2.1 he hs hm
    have hh := meet_high hz hm
    have hb := bounds_of_bar hz
    obtain ⟨-, -, -, h2⟩ := hok
    have hn : 0 ≤ x.2.1 - footM B * x.2.2 := by omega
    have : 0 ≤ (squareM B x.2).1 := Int.tdiv_nonneg hn (Int.mul_nonneg (by omega) (by omega))
    simp [this]
/-! ### the reference's sorting -/
end Go.Gx
end

section
set_option linter.unusedSimpArgs false
set_option linter.unusedVariables false
namespace Go.Gx
open Go Go.Conc Go.Proofs
variable {main : Bool}

end Go.Gx
end

section
set_option linter.unusedSimpArgs false
set_option linter.unusedVariables false
namespace Go.Gx
open Go Go.Conc Go.Proofs
variable {main : Bool}

end Go.Gx
end

section
set_option linter.unusedSimpArgs false
set_option linter.unusedVariables false
namespace Go.Gx
open Go Go.Conc Go.Proofs
variable {main : Bool}

end Go.Gx
end

section
set_option linter.unusedSimpArgs false
set_option linter.unusedVariables false
namespace Go.Gx
open Go Go.Conc Go.Proofs
variable {main : Bool}

end Go.Gx
end

section
set_option linter.unusedSimpArgs false
set_option linter.unusedVariables false
namespace Go.Gx
open Go Go.Conc Go.Proofs

end Go.Gx
end

section
/-
  LOGIC G: a growing list is shared: nobody writes it any more.
-/
set_option linter.unusedSimpArgs false
set_option linter.unusedVariables false
namespace Go.Gx
open Go Go.Conc
end Go.Gx
end

section
set_option linter.unusedSimpArgs false
set_option linter.unusedVariables false
namespace Go.Gx
open Go Go.Conc Go.Proofs
variable {main : Bool}

/-! ### a book whose marks are right for an eye -/
/-! ### the plain law of CanvasReal -/
end Go.Gx
end

section
set_option linter.unusedSimpArgs false
set_option linter.unusedVariables false
namespace Go.Gx
open Go Go.Conc Go.Proofs

end Go.Gx
end

section
set_option linter.unusedSimpArgs false
set_option linter.unusedVariables false
namespace Go.Gx
open Go Go.Conc Go.Proofs
variable {main : Bool}

/-! ### the plain law of CanvasReached -/
end Go.Gx
end

section
set_option linter.unusedSimpArgs false
set_option linter.unusedVariables false
namespace Go.Gx
open Go Go.Conc Go.Proofs

end Go.Gx
end

section
set_option linter.unusedSimpArgs false
set_option linter.unusedVariables false
namespace Go.Gx
open Go Go.Conc Go.Proofs

/-! ### the plain law of CanvasNeeded -/
theorem any_snoc {α : Type} {p : α → Bool} {l : List α} {j : Nat} (h : j < l.length) : (l.take (j + 1)).any p = ((l.take j).any p || p l[j]) := by
  rw [List.take_succ_eq_append_getElem h, List.any_append]
  simp
end Go.Gx
end

section
set_option linter.unusedSimpArgs false
set_option linter.unusedVariables false
namespace Go.Gx
open Go Go.Conc Go.Proofs

/-! ### marks the other way round -/
end Go.Gx
end

section
set_option linter.unusedSimpArgs false
set_option linter.unusedVariables false
namespace Go.Gx
open Go Go.Conc Go.Proofs

end Go.Gx
end

section
set_option linter.unusedSimpArgs false
set_option linter.unusedVariables false
namespace Go.Gx
open Go Go.Conc Go.Proofs
variable {main : Bool}

/-! ### a book that knows more -/
structure Knows (B C : Bk) : Prop where
  b : bookBar B = 0
  c : bookBar C = 0
  r : ∀ e s, rowM C e s = rowM B e s
  s : ∀ e ∈ statesM C, e ∈ statesM B
  n : (statesM C).length ≠ 0
theorem Knows.n' {B C : Bk} (h : Knows B C) : (statesM B).length ≠ 0 := by
  have h1 : 0 < (statesM C).length := by have := h.n; omega
  have := List.length_pos_of_mem (h.s _ (List.getElem_mem h1))
  omega
end Go.Gx
end

section
set_option linter.unusedSimpArgs false
set_option linter.unusedVariables false
namespace Go.Gx
open Go Go.Conc Go.Proofs

end Go.Gx
end

section
set_option linter.unusedSimpArgs false
set_option linter.unusedVariables false
namespace Go.Gx
open Go Go.Conc Go.Proofs

/-! ### an upright canvas -/
end Go.Gx
end

section
set_option linter.unusedSimpArgs false
set_option linter.unusedVariables false
namespace Go.Gx
open Go Go.Conc Go.Proofs

end Go.Gx
end

section
set_option linter.unusedSimpArgs false
set_option linter.unusedVariables false
namespace Go.Gx
open Go Go.Conc Go.Proofs
variable {main : Bool}

end Go.Gx
end

section
set_option linter.unusedSimpArgs false
set_option linter.unusedVariables false
namespace Go.Gx
open Go Go.Conc Go.Proofs

/-! ### sets of marks, by numbers -/
/-! ### the order of lists -/
/-! ### the least set of marks that clash -/
end Go.Gx
end

section
set_option linter.unusedSimpArgs false
set_option linter.unusedVariables false
namespace Go.Gx
open Go Go.Conc Go.Proofs

end Go.Gx
end

section
set_option linter.unusedSimpArgs false
set_option linter.unusedVariables false
namespace Go.Gx
open Go Go.Conc Go.Proofs

/-! ### how many states are left at most -/
end Go.Gx
end

section
set_option linter.unusedSimpArgs false
set_option linter.unusedVariables false
namespace Go.Gx
open Go Go.Conc Go.Proofs

/-! ### the plain law of CanvasAsked -/
end Go.Gx
end

section
set_option linter.unusedSimpArgs false
set_option linter.unusedVariables false
namespace Go.Gx
open Go Go.Conc Go.Proofs

/-! ### fractions in lowest terms -/
theorem low_eq' {n d n' d' : Int} (hd : 0 < d) (hd' : 0 < d') (h : n * d' = n' * d) : low n d = low n' d' := by
  rw [← low_scale (n := n) (d := d) hd', ← low_scale (n := n') (d := d') hd, h, Int.mul_comm d d']
theorem low_eq {n d n' d' : Int} (hd : d ≠ 0) (hd' : d' ≠ 0) (h : n * d' = n' * d) : low n d = low n' d' := by
  have flip : ∀ n d : Int, d ≠ 0 → ∃ n1 d1 : Int, 0 < d1 ∧ low n d = low n1 d1 ∧ ((n1 = n ∧ d1 = d) ∨ (n1 = -n ∧ d1 = -d)) := by
    intro n d hd
    by_cases h : 0 < d
    · exact ⟨n, d, h, rfl, .inl ⟨rfl, rfl⟩⟩
    · exact ⟨-n, -d, by omega, (low_neg hd).symm, .inr ⟨rfl, rfl⟩⟩
  obtain ⟨n1, d1, h1, e1, c1⟩ := flip n d hd
  obtain ⟨n2, d2, h2, e2, c2⟩ := flip n' d' hd'
  rw [e1, e2]
  refine low_eq' h1 h2 ?_
  rcases c1 with ⟨rfl, rfl⟩ | ⟨rfl, rfl⟩ <;> rcases c2 with ⟨rfl, rfl⟩ | ⟨rfl, rfl⟩ <;> grind
def IsLow (x : R2) : Prop := 1 ≤ x.2 ∧ low x.1 x.2 = x
theorem isLow_low {n d : Int} (hd : d ≠ 0) : IsLow (low n d) := by
  have h1 := low_den_pos (n := n) hd
  exact ⟨h1, low_eq (by omega) hd (low_cross hd)⟩
theorem isLow_one (n : Int) : IsLow (n, 1) := ⟨Int.le_refl _, low_one n⟩
theorem IsLow.inj {x y : R2} (hx : IsLow x) (hy : IsLow y) (h : x.1 * y.2 = y.1 * x.2) : x = y := by
  rw [← hx.2, ← hy.2]
  exact low_eq (by have := hx.1; omega) (by have := hy.1; omega) h
/-! ### a point at which a line meets a piece -/
structure SpotOf (p q : R2) (eye : Int) (s : R2) (x : Spot) : Prop where
  l1 : IsLow x.1
  l2 : IsLow x.2
  line : x.2.1 * s.2 * x.1.2 = (eye * s.2 * x.1.2 + s.1 * x.1.1) * x.2.2
  piece : x.1.1 * ((q.2 - p.2) * x.2.2) = (p.1 * ((q.2 - p.2) * x.2.2) + (q.1 - p.1) * (x.2.1 - p.2 * x.2.2)) * x.1.2
  den1 : x.1.2 ≤ 6000
  den2 : x.2.2 ≤ 6000
theorem spot_alg1 {f1 f2 h1 h2 p1 p2 X Y a s1 s2 eye D : Int} (hD : D ≠ 0) (hf : f1 * D = (p1 * D + X * a) * f2) (hh : h1 * D = (p2 * D + Y * a) * h2) (ha : a = (p2 - eye) * s2 - s1 * p1) (hd : D = s1 * X - Y * s2) :
    h1 * s2 * f2 = (eye * s2 * f2 + s1 * f1) * h2 := by
  refine Int.eq_of_mul_eq_mul_right hD ?_
  have e1 : h1 * s2 * f2 * D = (h1 * D) * s2 * f2 := by grind
  have e2 : (eye * s2 * f2 + s1 * f1) * h2 * D = (eye * s2 * f2 * D + s1 * (f1 * D)) * h2 := by grind
  rw [e1, e2, hf, hh]
  have e3 : (p2 * D + Y * a) * s2 = eye * s2 * D + s1 * (p1 * D + X * a) := by
    have e4 : D * a = a * (s1 * X - Y * s2) := by rw [← hd, Int.mul_comm]
    have e5 : D * a = D * ((p2 - eye) * s2 - s1 * p1) := by rw [← ha]
    grind
  grind
theorem spot_alg2 {f1 f2 h1 h2 p1 p2 X Y a D : Int} (hD : D ≠ 0) (hf : f1 * D = (p1 * D + X * a) * f2) (hh : h1 * D = (p2 * D + Y * a) * h2) :
    f1 * (Y * h2) = (p1 * (Y * h2) + X * (h1 - p2 * h2)) * f2 := by
  refine Int.eq_of_mul_eq_mul_right hD ?_
  have e1 : f1 * (Y * h2) * D = (f1 * D) * (Y * h2) := by grind
  have e2 : (p1 * (Y * h2) + X * (h1 - p2 * h2)) * f2 * D = (p1 * (Y * h2) * D + X * (h1 * D - p2 * h2 * D)) * f2 := by grind
  rw [e1, e2, hf, hh]
  grind
theorem off_bd20 {p : R2} {eye : Int} {s : R2} (hp : PtOk p) (he : EyeOk eye) (hs : -20 ≤ s.1 ∧ s.1 ≤ 20 ∧ 1 ≤ s.2 ∧ s.2 ≤ 20) : (offL p eye s).natAbs ≤ 3000 := by
  unfold PtOk at hp
  unfold EyeOk at he
  have h1 := mul_bd (a := p.2 - eye) (b := s.2) (A := 90) (B := 20) (by omega) (by omega)
  have h2 := mul_bd (a := s.1) (b := p.1) (A := 20) (B := 60) (by omega) (by omega)
  unfold offL
  omega
theorem cross_of {p q : R2} {eye : Int} {s : R2} (hp : PtOk p) (hq : PtOk q) (he : EyeOk eye) (hs : -20 ≤ s.1 ∧ s.1 ≤ 20 ∧ 1 ≤ s.2 ∧ s.2 ≤ 20) (hpq : p.2 < q.2) : ∀ x ∈ crossM p q eye s, SpotOf p q eye s x := by
  intro x hx
  have o1 := off_bd20 hp he hs
  have o2 := off_bd20 hq he hs
  unfold crossM at hx
  rw [if_neg (by rintro rfl; omega)] at hx
  split at hx
  · rename_i h0
    unfold offL at h0
    simp only [List.mem_cons, List.not_mem_nil, or_false] at hx
    rcases hx with rfl | rfl
    · exact ⟨isLow_one _, isLow_one _, by simp only; grind, by simp only; grind, by simp only; omega, by simp only; omega⟩
    · exact ⟨isLow_one _, isLow_one _, by simp only; grind, by simp only; grind, by simp only; omega, by simp only; omega⟩
  · rename_i h0
    split at hx
    · rename_i hc
      rw [List.mem_singleton] at hx
      subst hx
      have hD : offL p eye s - offL q eye s ≠ 0 := by omega
      have k1 := low_cross (n := p.1 * (offL p eye s - offL q eye s) + (q.1 - p.1) * offL p eye s) hD
      have k2 := low_cross (n := p.2 * (offL p eye s - offL q eye s) + (q.2 - p.2) * offL p eye s) hD
      have d1 := lowD_le (n := p.1 * (offL p eye s - offL q eye s) + (q.1 - p.1) * offL p eye s) (d := offL p eye s - offL q eye s)
      have d2 := lowD_le (n := p.2 * (offL p eye s - offL q eye s) + (q.2 - p.2) * offL p eye s) (d := offL p eye s - offL q eye s)
      have ha : offL p eye s = (p.2 - eye) * s.2 - s.1 * p.1 := rfl
      have hd : offL p eye s - offL q eye s = s.1 * (q.1 - p.1) - (q.2 - p.2) * s.2 := by unfold offL; grind
      refine ⟨isLow_low hD, isLow_low hD, spot_alg1 hD k1 k2 ha hd, spot_alg2 hD k1 k2, ?_, ?_⟩
      · show lowD _ _ ≤ _; omega
      · show lowD _ _ ≤ _; omega
    · cases hx
/-! ### the nearest one -/
theorem meet_none {ps : List R2} {eye : Int} {s : R2} : meetM ps eye s = none ↔ piecesM ps eye s = [] := by
  unfold meetM
  split
  · rename_i e; simp [e]
  · rename_i e; simp [e]
/-! ### points of the profile on the line; lines that miss the canvas -/
theorem cross_nil {p q : R2} {eye : Int} {s : R2} (hpq : p.2 < q.2) : crossM p q eye s = [] ↔ (0 < offL p eye s ∧ 0 < offL q eye s) ∨ (offL p eye s < 0 ∧ offL q eye s < 0) := by
  unfold crossM
  rw [if_neg (by rintro rfl; omega)]
  split
  · simp; omega
  · split
    · simp; omega
    · simp; omega
theorem pieces_nil {eye : Int} {s : R2} : ∀ (ps : List R2), 2 ≤ ps.length → ps.Pairwise (fun p q => p.2 < q.2) → (piecesM ps eye s = [] ↔ (∀ p ∈ ps, 0 < offL p eye s) ∨ ∀ p ∈ ps, offL p eye s < 0)
  | [], h, _ => by simp at h
  | [_], h, _ => by simp at h
  | [a, b], _, hpw => by
    have hab : a.2 < b.2 := (List.pairwise_cons.1 hpw).1 b (by simp)
    rw [pieces_cons, show piecesM [b] eye s = [] from rfl, List.append_nil, cross_nil hab]
    simp
  | a :: b :: c :: r, _, hpw => by
    have hab : a.2 < b.2 := (List.pairwise_cons.1 hpw).1 b (by simp)
    rw [pieces_cons, List.append_eq_nil_iff, cross_nil hab, pieces_nil (b :: c :: r) (by simp) (List.pairwise_cons.1 hpw).2]
    constructor
    · rintro ⟨h1 | h1, h2 | h2⟩
      · left; intro p hp; rcases List.mem_cons.1 hp with rfl | hp; exact h1.1; exact h2 p hp
      · have := h2 b (by simp); omega
      · have := h2 b (by simp); omega
      · right; intro p hp; rcases List.mem_cons.1 hp with rfl | hp; exact h1.1; exact h2 p hp
    · rintro (h | h)
      · exact ⟨.inl ⟨h a (by simp), h b (by simp)⟩, .inl fun p hp => h p (List.mem_cons_of_mem _ hp)⟩
      · exact ⟨.inr ⟨h a (by simp), h b (by simp)⟩, .inr fun p hp => h p (List.mem_cons_of_mem _ hp)⟩
/-- A line meets the canvas just if a point is not above it and another one is not below it. -/
theorem meet_iff {B : Bk} (hz : bookBar B = 0) {eye : Int} {s : R2} : (meetM B.prof eye s).isSome = ((B.prof.any fun p => decide (0 ≤ offL p eye s)) && B.prof.any fun p => decide (offL p eye s ≤ 0)) := by
  have h2 := (bounds_of_bar hz).1
  have hn := pieces_nil (eye := eye) (s := s) B.prof h2 (prof_pw hz)
  rw [← meet_none] at hn
  cases hm : meetM B.prof eye s with
  | none =>
    symm
    rw [hm] at hn
    rcases hn.1 rfl with h | h
    · have : (B.prof.any fun p => decide (offL p eye s ≤ 0)) = false := by
        rw [List.any_eq_false]
        intro p hp
        have := h p hp
        simp; omega
      rw [this]; simp
    · have : (B.prof.any fun p => decide (0 ≤ offL p eye s)) = false := by
        rw [List.any_eq_false]
        intro p hp
        have := h p hp
        simp; omega
      rw [this]; simp
  | some x =>
    symm
    rw [hm] at hn
    rw [Option.isSome_some, Bool.and_eq_true, List.any_eq_true, List.any_eq_true]
    refine Classical.byContradiction fun hc => ?_
    have : (some x : Option Spot) = none := hn.2 (by
      by_cases h1 : ∃ p ∈ B.prof, 0 ≤ offL p eye s
      · left
        intro p hp
        by_cases h3 : 0 < offL p eye s
        · exact h3
        · exfalso
          obtain ⟨q, hq, h4⟩ := h1
          exact hc ⟨⟨q, hq, by simpa using h4⟩, ⟨p, hp, by simp; omega⟩⟩
      · right
        intro p hp
        by_cases h3 : 0 ≤ offL p eye s
        · exact absurd ⟨p, hp, h3⟩ h1
        · omega)
    cases this
end Go.Gx
end

section
set_option linter.unusedSimpArgs false
set_option linter.unusedVariables false
namespace Go.Gx
open Go Go.Conc Go.Proofs

def sgnM (n : Int) : Int := if n < 0 then -1 else if n = 0 then 0 else 1
theorem offL_comm (p : R2) (eye : Int) (s : R2) : (p.2 - eye) * s.2 - p.1 * s.1 = offL p eye s := by unfold offL; grind
set_option maxRecDepth 100000 in
set_option maxHeartbeats 1000000 in
/-- sign (law02) -/
theorem s41 {main : Bool} (L : Lg Tryz.prog main) (H : Facts) {p : R2} {eye : Int} {s : R2} (hp : PtOk p) (he : EyeOk eye) (hs : -20 ≤ s.1 ∧ s.1 ≤ 20 ∧ 1 ≤ s.2 ∧ s.2 ≤ 20) :
    Pure L 41 #[.agg (List.toArray (c2 p)), .int .i64 eye, rV s] H (.int .i64 (sgnM (offL p eye s))) := by
  refine Spec.enter Tryz.func41 rfl (by simp [Tryz.f41]) fun c cs hc => ?_
  rw [← offL_comm] at hc
  unfold PtOk at hp
  unfold EyeOk at he
  have h1 := mul_bd (a := p.2 - eye) (b := s.2) (A := 90) (B := 20) (by omega) (by omega)
  have h2 := mul_bd (a := p.1) (b := s.1) (A := 60) (B := 20) (by omega) (by omega)
  refine At.seq (At.region ?_); refine At.bx rfl rfl rfl rfl rfl rfl rfl fun r3 => ?_; refine At.bx rfl rfl rfl rfl rfl rfl rfl fun r5 => ?_; refine At.v rfl rfl rfl rfl rfl trivial ?_; refine At.regionEnd (At.seq (At.region ?_)); refine At.fa 1 rfl rfl rfl rfl rfl rfl rfl ?_; refine At.ld 1 rfl rfl rfl rfl rfl rfl rfl rfl rfl ?_; refine At.v rfl rfl rfl rfl rfl trivial ?_; refine At.v rfl rfl rfl rfl rfl (by omega) ?_; refine At.fa 1 rfl rfl rfl rfl rfl rfl rfl ?_
  refine At.ld 0 rfl rfl rfl rfl rfl rfl rfl rfl rfl ?_; refine At.v rfl rfl rfl rfl rfl (by omega) ?_; refine At.fa 0 rfl rfl rfl rfl rfl rfl rfl ?_; refine At.ld 1 rfl rfl rfl rfl rfl rfl rfl rfl rfl ?_; refine At.fa 0 rfl rfl rfl rfl rfl rfl rfl ?_; refine At.ld 0 rfl rfl rfl rfl rfl rfl rfl rfl rfl ?_; (iterate 2 refine At.v rfl rfl rfl rfl rfl (by omega) ?_); refine At.v rfl rfl rfl rfl rfl trivial ?_; refine At.regionEnd (At.seq (At.region ?_))
  (iterate 4 refine At.v rfl rfl rfl rfl rfl trivial ?_); refine At.regionEnd ?_
  generalize (p.2 - eye) * s.2 - p.1 * s.1 = n at hc ⊢
  have e : (if (if n < 1 then n else 1) > -1 then (if n < 1 then n else 1) else -1) = sgnM n := by unfold sgnM; split <;> split <;> split <;> omega
  rw [← e] at hc
  exact At.ret Tryz.func41 (.inr ⟨_, rfl⟩) rfl (.tmp rfl .nil) (wk (hc _ _ (⟨by rfl, rfl⟩)))
set_option maxRecDepth 100000 in
set_option maxHeartbeats 1000000 in
/-- lowest (law02) -/
theorem s42 {main : Bool} (L : Lg Tryz.prog main) (H : Facts) {x : R2} (hx : IsLow x) (h1 : Mid x.1) (h2 : Mid x.2) : Pure L 42 #[rV x] H (.bool true) := by
  refine Spec.enter Tryz.func42 rfl (by simp [Tryz.f42]) fun c cs hc => ?_
  obtain ⟨h3, h4⟩ := hx
  have q46 := fun H_ => s46 L H_ (n := x.1) (d := x.2) (by omega) h1 h2
  have e : Value.agg #[.int .i64 (lowN x.1 x.2), .int .i64 (lowD x.1 x.2)] = rV (low x.1 x.2) := rfl
  rw [e, h4] at q46
  have stop46 := trivial
  refine At.seq (At.region ?_); refine At.bx rfl rfl rfl rfl rfl rfl rfl fun r1 => ?_; refine At.v rfl rfl rfl rfl rfl trivial ?_; refine At.regionEnd (At.seq ?_); refine At.drawJ hmix [] rfl ?_; refine Pool.fa 1 0 rfl rfl rfl rfl rfl rfl rfl rfl rfl ?_; refine Pool.ld 0 1 rfl rfl rfl rfl rfl rfl rfl rfl rfl rfl rfl ?_; refine Pool.cp 2 rfl rfl rfl rfl rfl rfl rfl fun b5 h5 => ?_; refine Pool.v 3 rfl rfl rfl rfl rfl rfl rfl trivial ?_
  obtain rfl : b5 = true := h5.symm.trans (decide_eq_true (by omega))
  refine Pool.fa 0 4 rfl rfl rfl rfl rfl rfl rfl rfl rfl ?_; refine Pool.ld 0 5 rfl rfl rfl rfl rfl rfl rfl rfl rfl rfl rfl ?_; refine Pool.fa 1 6 rfl rfl rfl rfl rfl rfl rfl rfl rfl ?_; refine Pool.ld 0 7 rfl rfl rfl rfl rfl rfl rfl rfl rfl rfl rfl ?_; refine Pool.ld 0 9 rfl rfl rfl rfl rfl rfl rfl rfl rfl rfl rfl ?_
  clear stop46
  refine Pool.cq 8 rfl rfl rfl rfl rfl rfl rfl rfl rfl (fun H_ hs_ => q46 H_) ?_; refine Pool.qb 10 rfl rfl rfl rfl rfl (q_eqS rfl rfl rfl rfl rfl rfl rfl rfl) rfl fun b13 h13 => ?_; refine Pool.v 11 rfl rfl rfl rfl rfl rfl rfl trivial ?_; refine Pool.v 12 rfl rfl rfl rfl rfl rfl rfl trivial ?_; refine pool_done rfl rfl ?_; refine At.regionEnd ?_
  obtain rfl : b13 = true := by rw [← h13]; simp
  exact At.ret Tryz.func42 (.inr ⟨_, rfl⟩) rfl (.tmp rfl .nil) (wk (hc _ _ (⟨rfl, rfl⟩)))
/-- Whether a point, by its fractions, is on a piece. -/
def onM (p q f h : R2) : Bool :=
  if h.1 - p.2 * h.2 < 0 ∨ (q.2 - p.2) * h.2 < h.1 - p.2 * h.2 then false
  else decide (f.1 * ((q.2 - p.2) * h.2) = (p.1 * ((q.2 - p.2) * h.2) + (q.1 - p.1) * (h.1 - p.2 * h.2)) * f.2)
set_option maxRecDepth 100000 in
set_option maxHeartbeats 1000000 in
/-- onPiece (law02) -/
theorem s44 {main : Bool} (L : Lg Tryz.prog main) (H : Facts) {p q f h : R2} (hp : PtOk p) (hq : PtOk q) (hf1 : 0 ≤ f.1 ∧ f.1 ≤ 360000) (hf2 : 1 ≤ f.2 ∧ f.2 ≤ 6000) (hh1 : 0 ≤ h.1 ∧ h.1 ≤ 540000) (hh2 : 1 ≤ h.2 ∧ h.2 ≤ 6000) :
    Pure L 44 #[.agg (List.toArray (c2 p)), .agg (List.toArray (c2 q)), rV f, rV h] H (.bool (onM p q f h)) := by
  refine Spec.enter Tryz.func44 rfl (by simp [Tryz.f44]) fun c cs hc => ?_
  unfold PtOk at hp hq
  have e1 := mul_bd (a := p.2) (b := h.2) (A := 90) (B := 6000) (by omega) (by omega)
  have e2 := mul_bd (a := q.2 - p.2) (b := h.2) (A := 90) (B := 6000) (by omega) (by omega)
  unfold onM at hc
  obtain ⟨n, hn⟩ : ∃ n, h.1 - p.2 * h.2 = n := ⟨_, rfl⟩
  obtain ⟨d, hd⟩ : ∃ d, (q.2 - p.2) * h.2 = d := ⟨_, rfl⟩
  have n1 : n.natAbs ≤ 1080000 := by omega
  have d1 : d.natAbs ≤ 540000 := by omega
  rw [hn, hd] at hc
  have e3 := mul_bd (a := f.1) (b := d) (A := 360000) (B := 540000) (by omega) (by omega)
  have e4 := mul_bd (a := p.1) (b := d) (A := 60) (B := 540000) (by omega) (by omega)
  have e5 := mul_bd (a := q.1 - p.1) (b := n) (A := 60) (B := 1080000) (by omega) (by omega)
  have e6 := mul_bd (a := p.1 * d + (q.1 - p.1) * n) (b := f.2) (A := 100000000) (B := 6000) (by omega) (by omega)
  refine At.seq (At.region ?_); refine At.bx rfl rfl rfl rfl rfl rfl rfl fun r4 => ?_; refine At.bx rfl rfl rfl rfl rfl rfl rfl fun r5 => ?_; refine At.bx rfl rfl rfl rfl rfl rfl rfl fun r6 => ?_; refine At.bx rfl rfl rfl rfl rfl rfl rfl fun r7 => ?_; refine At.v rfl rfl rfl rfl rfl trivial ?_; refine At.regionEnd (At.seq ?_); refine At.drawJ hmix [] rfl ?_; refine Pool.fa 0 0 rfl rfl rfl rfl rfl rfl rfl rfl rfl ?_; refine Pool.ld 0 1 rfl rfl rfl rfl rfl rfl rfl rfl rfl rfl rfl ?_
  refine Pool.fa 1 2 rfl rfl rfl rfl rfl rfl rfl rfl rfl ?_; refine Pool.ld 3 3 rfl rfl rfl rfl rfl rfl rfl rfl rfl rfl rfl ?_; refine Pool.fa 1 4 rfl rfl rfl rfl rfl rfl rfl rfl rfl ?_; refine Pool.ld 0 5 rfl rfl rfl rfl rfl rfl rfl rfl rfl rfl rfl ?_; refine Pool.v 6 rfl rfl rfl rfl rfl rfl rfl (by omega) ?_; refine Pool.v 7 rfl rfl rfl rfl rfl rfl rfl (by omega) ?_; refine Pool.fa 1 8 rfl rfl rfl rfl rfl rfl rfl rfl rfl ?_; refine Pool.ld 2 9 rfl rfl rfl rfl rfl rfl rfl rfl rfl rfl rfl ?_
  refine Pool.fa 1 10 rfl rfl rfl rfl rfl rfl rfl rfl rfl ?_; refine Pool.ld 3 11 rfl rfl rfl rfl rfl rfl rfl rfl rfl rfl rfl ?_; refine Pool.v 12 rfl rfl rfl rfl rfl rfl rfl (by omega) ?_; refine Pool.fa 1 13 rfl rfl rfl rfl rfl rfl rfl rfl rfl ?_; refine Pool.ld 0 14 rfl rfl rfl rfl rfl rfl rfl rfl rfl rfl rfl ?_; refine Pool.v 15 rfl rfl rfl rfl rfl rfl rfl (by omega) ?_; refine Pool.v 16 rfl rfl rfl rfl rfl rfl rfl trivial ?_; refine Pool.v 17 rfl rfl rfl rfl rfl rfl rfl trivial ?_
  refine pool_done rfl rfl ?_; refine At.regionEnd (At.seq (At.seq (At.region ?_))); refine At.v rfl rfl rfl rfl rfl trivial ?_; refine At.cp rfl rfl rfl rfl rfl fun b28 h28 => ?_; refine At.v rfl rfl rfl rfl rfl trivial ?_
  rw [hn, hd]
  skip
  cases b28
  · refine At.v rfl rfl rfl rfl rfl trivial ?_
    refine At.v rfl rfl rfl rfl rfl trivial ?_; refine At.cp rfl rfl rfl rfl rfl fun b32 h32 => ?_; refine At.v rfl rfl rfl rfl rfl trivial ?_; refine At.regionEnd ?_
    cases b32
    · rw [if_neg (by simp at h28 h32; omega)] at hc
      refine At.cond rfl ?_; refine At.skip (At.seq (At.region ?_)); refine At.fa 0 rfl rfl rfl rfl rfl rfl rfl ?_; refine At.ld 1 rfl rfl rfl rfl rfl rfl rfl rfl rfl ?_; refine At.v rfl rfl rfl rfl rfl trivial ?_; refine At.v rfl rfl rfl rfl rfl (by omega) ?_; refine At.fa 0 rfl rfl rfl rfl rfl rfl rfl ?_; refine At.ld 3 rfl rfl rfl rfl rfl rfl rfl rfl rfl ?_; refine At.v rfl rfl rfl rfl rfl trivial ?_; refine At.v rfl rfl rfl rfl rfl (by omega) ?_; refine At.fa 0 rfl rfl rfl rfl rfl rfl rfl ?_
      refine At.ld 2 rfl rfl rfl rfl rfl rfl rfl rfl rfl ?_; refine At.fa 0 rfl rfl rfl rfl rfl rfl rfl ?_; refine At.ld 3 rfl rfl rfl rfl rfl rfl rfl rfl rfl ?_; refine At.v rfl rfl rfl rfl rfl (by omega) ?_; refine At.v rfl rfl rfl rfl rfl trivial ?_; (iterate 2 refine At.v rfl rfl rfl rfl rfl (by omega) ?_); refine At.fa 1 rfl rfl rfl rfl rfl rfl rfl ?_; refine At.ld 1 rfl rfl rfl rfl rfl rfl rfl rfl rfl ?_; refine At.v rfl rfl rfl rfl rfl (by omega) ?_
      refine At.cp rfl rfl rfl rfl rfl fun b53 h53 => ?_; refine At.v rfl rfl rfl rfl rfl trivial ?_; refine At.regionEnd ?_
      exact At.ret Tryz.func44 (.inr ⟨_, rfl⟩) rfl (.tmp rfl .nil) (wk (hc _ _ (⟨by simp_all [resVal], rfl⟩)))
    · rw [if_pos (by simp at h28 h32; omega)] at hc
      refine At.cond rfl ?_; refine At.seq (At.region ?_); refine At.v rfl rfl rfl rfl rfl trivial ?_; refine At.regionEnd ?_
      exact At.ret Tryz.func44 (.inr ⟨_, rfl⟩) rfl (.tmp rfl .nil) (wk (hc _ _ (⟨by rfl, rfl⟩)))
  · rw [if_pos (by simp at h28; omega)] at hc
    (iterate 3 refine At.un rfl rfl rfl rfl ?_); refine At.v rfl rfl rfl rfl rfl trivial ?_; refine At.regionEnd ?_; refine At.cond rfl ?_; refine At.seq (At.region ?_); refine At.v rfl rfl rfl rfl rfl trivial ?_; refine At.regionEnd ?_
    exact At.ret Tryz.func44 (.inr ⟨_, rfl⟩) rfl (.tmp rfl .nil) (wk (hc _ _ (⟨by rfl, rfl⟩)))
/-! ### the plain law of CanvasExact -/
theorem far_bd {p q : R2} {eye : Int} {s : R2} {x : Spot} (hp : PtOk p) (hq : PtOk q) (hpq : p.2 < q.2) (hx : SpotOf p q eye s x) (hh : p.2 * x.2.2 ≤ x.2.1 ∧ x.2.1 ≤ q.2 * x.2.2) : x.1.2 ≤ x.1.1 ∧ x.1.1 ≤ 60 * x.1.2 := by
  have h2 := hx.l2.1
  have f2 := hx.l1.1
  have hk := hx.piece
  unfold PtOk at hp hq
  generalize x.1.1 = f1 at *
  generalize x.1.2 = f at *
  generalize x.2.1 = h1 at *
  generalize x.2.2 = h at *
  have hA : 0 < (q.2 - p.2) * h := Int.mul_pos (by omega) (by omega)
  obtain ⟨n, hn⟩ : ∃ n, h1 - p.2 * h = n := ⟨_, rfl⟩
  have hn1 : n ≤ (q.2 - p.2) * h := by rw [Int.sub_mul]; omega
  have hn0 : 0 ≤ n := by omega
  rw [hn] at hk
  generalize (q.2 - p.2) * h = A at *
  have k1 : p.1 * A + (q.1 - p.1) * n = p.1 * (A - n) + q.1 * n := by grind
  have a1 := Int.mul_le_mul_of_nonneg_right (show 1 ≤ p.1 by omega) (show 0 ≤ A - n by omega)
  have a2 := Int.mul_le_mul_of_nonneg_right (show 1 ≤ q.1 by omega) hn0
  have a3 := Int.mul_le_mul_of_nonneg_right (show p.1 ≤ 60 by omega) (show 0 ≤ A - n by omega)
  have a4 := Int.mul_le_mul_of_nonneg_right (show q.1 ≤ 60 by omega) hn0
  rw [k1] at hk
  have b1 := Int.mul_le_mul_of_nonneg_right (show A ≤ p.1 * (A - n) + q.1 * n by omega) (show 0 ≤ f by omega)
  have b2 := Int.mul_le_mul_of_nonneg_right (show p.1 * (A - n) + q.1 * n ≤ 60 * A by omega) (show 0 ≤ f by omega)
  rw [← hk] at b1 b2
  have e0 : f * A = A * f := Int.mul_comm ..
  have e : 60 * f * A = 60 * A * f := Int.mul_right_comm ..
  have c1 : f * A ≤ f1 * A := by omega
  have c2 : f1 * A ≤ 60 * f * A := by omega
  exact ⟨Int.le_of_mul_le_mul_right c1 hA, Int.le_of_mul_le_mul_right c2 hA⟩
theorem line_alg {h1 h2 f1 f2 s1 s2 eye : Int} (h : h1 * s2 * f2 = (eye * s2 * f2 + s1 * f1) * h2) : (h1 - eye * h2) * f2 * s2 = f1 * s1 * h2 := by grind
structure Exact (B : Bk) (eye : Int) (s : R2) (x : Spot) : Prop where
  l1 : IsLow x.1
  l2 : IsLow x.2
  l3 : IsLow (squareM B x.2).2
  f1 : 1 ≤ x.1.1 ∧ x.1.1 ≤ 360000
  f2 : x.1.2 ≤ 6000
  h1 : 0 ≤ x.2.1 ∧ x.2.1 ≤ 540000
  h2 : x.2.2 ≤ 6000
  row : 0 ≤ (squareM B x.2).1 ∧ (squareM B x.2).1 ≤ 90
  part : 0 ≤ (squareM B x.2).2.1 ∧ (squareM B x.2).2.1 < (squareM B x.2).2.2
  partD : (squareM B x.2).2.2 ≤ 180000
  line : (x.2.1 - eye * x.2.2) * x.1.2 * s.2 = x.1.1 * s.1 * x.2.2
  on : ∃ i, ∃ h : i + 1 < B.prof.length, onM B.prof[i] B.prof[i + 1] x.1 x.2 = true
  high : (x.2.1 - footM B * x.2.2) * (squareM B x.2).2.2 = ((squareM B x.2).1 * (squareM B x.2).2.2 + (squareM B x.2).2.1) * B.size * x.2.2
theorem exact_of {B : Bk} (hz : bookBar B = 0) {eye : Int} {s : R2} (he : EyeOk eye) (hs : -20 ≤ s.1 ∧ s.1 ≤ 20 ∧ 1 ≤ s.2 ∧ s.2 ≤ 20) {x : Spot} (h : meetM B.prof eye s = some x) : Exact B eye s x := by
  have hb := bounds_of_bar hz
  obtain ⟨p, q, hpq, hx⟩ := meet_mem h
  obtain ⟨hp, hq, hlt⟩ := pairs_ok hb.2.2.1 (prof_pw hz) _ hpq
  simp only at hp hq hlt
  have hc := cross_of hp hq he hs hlt x hx
  have hh := cross_high hlt x hx
  have hf := far_bd hp hq hlt hc hh
  have hsl : SlOk s := by unfold SlOk; omega
  have hrow := row_ok hz he hsl
  have his := row_isSome hz he hsl
  rw [h] at his
  simp only [Option.isSome_some] at his
  have hr0 : 0 ≤ rowM B eye s := by simpa using his.symm
  rw [rowM_some h] at hrow hr0
  obtain ⟨l1, l2, ln, pc, d1, d2⟩ := id hc
  have l11 := l1.1
  have l21 := l2.1
  have hp' := hp
  have hq' := hq
  unfold PtOk at hp' hq'
  have hft := foot_le hz p (List.of_mem_zip hpq).1
  have hf0 := foot_pos hz
  have g1 : 0 ≤ p.2 * x.2.2 := Int.mul_nonneg (by omega) (by omega)
  have g2 := Int.mul_le_mul_of_nonneg_right (show q.2 ≤ 90 by omega) (show 0 ≤ x.2.2 by omega)
  have g3 := Int.mul_le_mul_of_nonneg_right hft (show 0 ≤ x.2.2 by omega)
  have hD : 0 < B.size * x.2.2 := Int.mul_pos (by omega) (by omega)
  have hN : 0 ≤ x.2.1 - footM B * x.2.2 := by omega
  have hDb := mul_bd (a := B.size) (b := x.2.2) (A := 30) (B := 6000) (by omega) (by omega)
  have ht0 := Int.tmod_nonneg (B.size * x.2.2) hN
  have ht1 := Int.tmod_lt_of_pos (x.2.1 - footM B * x.2.2) hD
  have hcr := low_cross (n := (x.2.1 - footM B * x.2.2).tmod (B.size * x.2.2)) (d := B.size * x.2.2) (by omega)
  have hpd := low_den_pos (n := (x.2.1 - footM B * x.2.2).tmod (B.size * x.2.2)) (d := B.size * x.2.2) (by omega)
  have hpl := lowD_le (n := (x.2.1 - footM B * x.2.2).tmod (B.size * x.2.2)) (d := B.size * x.2.2)
  have hdm := Int.mul_tdiv_add_tmod (x.2.1 - footM B * x.2.2) (B.size * x.2.2)
  have eP : (squareM B x.2).2 = low ((x.2.1 - footM B * x.2.2).tmod (B.size * x.2.2)) (B.size * x.2.2) := rfl
  have eR : (squareM B x.2).1 = (x.2.1 - footM B * x.2.2).tdiv (B.size * x.2.2) := rfl
  have eD : (low ((x.2.1 - footM B * x.2.2).tmod (B.size * x.2.2)) (B.size * x.2.2)).2 = lowD ((x.2.1 - footM B * x.2.2).tmod (B.size * x.2.2)) (B.size * x.2.2) := rfl
  refine ⟨l1, l2, by rw [eP]; exact isLow_low (by omega), by omega, d1, by omega, d2, by omega, ?_, ?_, ?_, ?_, ?_⟩
  · rw [eP]
    generalize low ((x.2.1 - footM B * x.2.2).tmod (B.size * x.2.2)) (B.size * x.2.2) = w at *
    generalize (x.2.1 - footM B * x.2.2).tmod (B.size * x.2.2) = m at *
    generalize B.size * x.2.2 = D at *
    constructor
    · have : 0 ≤ w.1 * D := by rw [hcr]; exact Int.mul_nonneg ht0 (by omega)
      exact Int.nonneg_of_mul_nonneg_left this hD
    · have k := Int.mul_lt_mul_of_pos_right ht1 (show 0 < w.2 by omega)
      rw [← hcr, Int.mul_comm D w.2] at k
      exact Int.lt_of_mul_lt_mul_right k (by omega)
  · rw [eP, eD]; omega
  · exact line_alg ln
  · obtain ⟨i, hi, e⟩ := List.getElem_of_mem hpq
    simp only [List.getElem_zip, List.getElem_tail, Prod.mk.injEq] at e
    have hi2 : i + 1 < B.prof.length := by
      simp only [List.length_zip, List.length_tail] at hi; omega
    refine ⟨i, hi2, ?_⟩
    obtain ⟨e1, e2⟩ := e
    rw [e1, e2]
    unfold onM
    rw [if_neg (by rw [Int.sub_mul]; omega), decide_eq_true_eq]
    exact pc
  · rw [eP, eR]
    generalize low ((x.2.1 - footM B * x.2.2).tmod (B.size * x.2.2)) (B.size * x.2.2) = w at *
    generalize (x.2.1 - footM B * x.2.2).tmod (B.size * x.2.2) = m at *
    generalize (x.2.1 - footM B * x.2.2).tdiv (B.size * x.2.2) = r at *
    rw [← hdm]
    grind
end Go.Gx
end

section
set_option linter.unusedSimpArgs false
set_option linter.unusedVariables false
namespace Go.Gx
open Go Go.Conc Go.Proofs

def onTo (B : Bk) (f h : R2) (j : Nat) : Bool := (List.range j).any fun i => onM (B.prof.getD i (0, 0)) (B.prof.getD (i + 1) (0, 0)) f h
theorem onTo_succ (B : Bk) (f h : R2) (j : Nat) : onTo B f h (j + 1) = (onTo B f h j || onM (B.prof.getD j (0, 0)) (B.prof.getD (j + 1) (0, 0)) f h) := by
  unfold onTo
  rw [List.range_succ, List.any_append]
  simp
structure ExactV (B : Bk) (eye : Int) (s f h pt : R2) (r : Int) : Prop where
  l1 : IsLow f
  l2 : IsLow h
  l3 : IsLow pt
  f1 : 1 ≤ f.1 ∧ f.1 ≤ 360000
  f2 : 1 ≤ f.2 ∧ f.2 ≤ 6000
  h1 : 0 ≤ h.1 ∧ h.1 ≤ 540000
  h2 : 1 ≤ h.2 ∧ h.2 ≤ 6000
  row : 0 ≤ r ∧ r ≤ 90
  part : 0 ≤ pt.1 ∧ pt.1 < pt.2
  partD : pt.2 ≤ 180000
  line : (h.1 - eye * h.2) * f.2 * s.2 = f.1 * s.1 * h.2
  on : onTo B f h (B.prof.length - 1) = true
  high : (h.1 - footM B * h.2) * pt.2 = (r * pt.2 + pt.1) * B.size * h.2
theorem exact_cases {B : Bk} (hz : bookBar B = 0) {eye : Int} {s : R2} (he : EyeOk eye) (hs : -20 ≤ s.1 ∧ s.1 ≤ 20 ∧ 1 ≤ s.2 ∧ s.2 ≤ 20) :
    ∃ (f h pt : R2) (r : Int) (fd : Bool), Value.tuple #[rV ((meetM B.prof eye s).getD ((0, 0), (0, 0))).1, rV ((meetM B.prof eye s).getD ((0, 0), (0, 0))).2, .bool (meetM B.prof eye s).isSome, .int .i64 0] = .tuple #[rV f, rV h, .bool fd, .int .i64 0] ∧
      sqV B eye s = .tuple #[.int .i64 r, rV pt, .bool fd, .int .i64 0] ∧ fd = ((B.prof.any fun p => decide (0 ≤ offL p eye s)) && B.prof.any fun p => decide (offL p eye s ≤ 0)) ∧
      ((fd = false ∧ f = (0, 0) ∧ h = (0, 0) ∧ r = 0 ∧ pt = (0, 0)) ∨ (fd = true ∧ ExactV B eye s f h pt r)) := by
  rw [← meet_iff hz]
  cases hm : meetM B.prof eye s with
  | none => exact ⟨(0, 0), (0, 0), (0, 0), 0, false, rfl, sqV_none hm, rfl, .inl ⟨rfl, rfl, rfl, rfl, rfl⟩⟩
  | some x =>
    refine ⟨x.1, x.2, (squareM B x.2).2, (squareM B x.2).1, true, rfl, sqV_some hm, rfl, .inr ⟨rfl, ?_⟩⟩
    have e := exact_of hz he hs hm
    refine ⟨e.l1, e.l2, e.l3, e.f1, ⟨e.l1.1, e.f2⟩, e.h1, ⟨e.l2.1, e.h2⟩, e.row, e.part, e.partD, e.line, ?_, e.high⟩
    obtain ⟨i, hi, h⟩ := e.on
    unfold onTo
    rw [List.any_eq_true]
    refine ⟨i, List.mem_range.2 (by omega), ?_⟩
    rw [List.getD_eq_getElem?_getD, List.getElem?_eq_getElem (by omega), List.getD_eq_getElem?_getD, List.getElem?_eq_getElem hi]
    exact h
theorem sgn_ge (n : Int) : decide (0 ≤ sgnM n) = decide (0 ≤ n) := by unfold sgnM; rw [decide_eq_decide]; split <;> (try split) <;> omega
theorem sgn_le (n : Int) : decide (sgnM n ≤ 0) = decide (n ≤ 0) := by unfold sgnM; rw [decide_eq_decide]; split <;> (try split) <;> omega
set_option maxRecDepth 100000 in
set_option maxHeartbeats 4000000 in
/-- CanvasExact -/
theorem law5 {Post : Value → World → Prop} {W₀ : World} {H Hg : Facts} (hG : Glo H Hg) (hsh : ∀ f ∈ H, f.isOwn = false) {B : Bk} {A : BkA} (hBk : BkR H B A) {h d n : Int} (hh : 0 ≤ h ∧ h ≤ 255) (hd : 0 ≤ d ∧ d ≤ 255) (hn : -128 ≤ n ∧ n ≤ 127) :
    LawAt (mainLg Tryz.prog Post W₀ [] []) 5 #[bkV B A, .int .u8 h, .int .u8 d, .int .i8 n] H (.bool true) := by
  refine LawAt.enter Tryz.func5 rfl (by simp [Tryz.f5]) fun cs hLB => ?_
  obtain ⟨pa, pc, ma, mc⟩ := A
  generalize hL : mainLg Tryz.prog Post W₀ [] [] = L at hLB ⊢
  have stop22 := trivial
  refine At.seq (At.region ?_); refine At.bx rfl rfl rfl rfl rfl rfl rfl fun r4 => ?_; refine At.v rfl rfl rfl rfl rfl trivial ?_; refine At.regionEnd (At.seq (At.seq (At.region ?_))); refine At.ld 0 rfl rfl rfl rfl rfl rfl rfl rfl rfl ?_; refine At.cqb rfl rfl rfl rfl rfl rfl rfl rfl (s39 L _ bs) fun b26 h26 => ?_; refine At.v rfl rfl rfl rfl rfl trivial ?_; refine At.regionEnd ?_
  cases b26
  · refine At.cond rfl ?_
    refine At.seq (At.region ?_)
    subst hL
    refine At.cq rfl rfl rfl rfl rfl rfl rfl rfl (s22 hG.a) ?_; refine At.v rfl rfl rfl rfl rfl trivial ?_; refine At.regionEnd ?_
    exact hLB Tryz.func5 (.inr ⟨_, rfl⟩) rfl (.tmp rfl .nil) (⟨by rfl, rfl⟩)
  have hf : fitM B = true := h26
  have hz : bookBar B = 0 := by simp [fitM] at hf; exact hf.2.2
  have hg : Cells H 0 0 chkC := hG.g.a hG.sub
  have hb := bounds_of_bar hz
  have hrp := hBk.p
  simp only at hrp
  have hO : Opn H B ⟨pa, pc, ma, mc⟩ := ⟨hg, hBk, by omega, by omega⟩
  have w1 : IntKind.wrap .i64 h = h := wrap_in (by omega)
  have stop25 := trivial
  refine At.cond rfl ?_; refine At.skip (At.seq (At.region ?_)); refine At.v rfl rfl rfl rfl rfl trivial ?_; refine At.q rfl rfl rfl rfl (q_conv rfl rfl rfl) ?_; refine At.v rfl rfl rfl rfl rfl (by omega) ?_; (iterate 2 refine At.v rfl rfl rfl rfl rfl trivial ?_); refine At.cq rfl rfl rfl rfl rfl rfl rfl rfl (s40 L _ bs bs) ?_; refine At.al rfl rfl rfl rfl rfl fun r10 => ?_; refine At.v rfl rfl rfl rfl rfl trivial ?_; refine At.st 0 rfl rfl rfl rfl rfl rfl rfl rfl rfl rfl rfl rfl ?_
  refine At.regionEnd (At.seq (At.region ?_)); refine At.ld 1 rfl rfl rfl rfl rfl rfl rfl rfl rfl ?_; refine At.v rfl rfl rfl rfl rfl trivial ?_; refine At.ld 0 rfl rfl rfl rfl rfl rfl rfl rfl rfl ?_
  clear stop25
  rw [w1]
  have he : EyeOk (h.tmod 91) := ⟨Int.tmod_nonneg _ hh.1, by have := Int.tmod_lt_of_pos h (show (0 : Int) < 91 by decide); omega⟩
  have hsb : slopeBar (low (n.tmod 21) (1 + d.tmod 20)).1 (low (n.tmod 21) (1 + d.tmod 20)).2 = 0 :=
    low_slope (tmod_bd n 21 (by omega)) (by have h1 := Int.tmod_nonneg 20 hd.1; have h2 := Int.tmod_lt_of_pos d (show (0 : Int) < 20 by decide); omega)
  generalize h.tmod 91 = eye at he ⊢
  generalize low (n.tmod 21) (1 + d.tmod 20) = s at hsb ⊢
  have hs := slOk_of_bar hsb
  have b2 : lookBar B [hBar eye, slopeBar s.1 s.2] = 0 := by rw [lookBar1 hz, firstBar2, hsb, show hBar eye = 0 from if_pos he]; rfl
  obtain ⟨f, hi, pt, r, fd, e25, e27, hfd, hcs⟩ := exact_cases hz he hs
  have q25 := fun H_ (hO_ : Opn H_ B ⟨pa, pc, ma, mc⟩) => s25 L H_ (eye := eye) (s := s) hO_
  have q27 := fun H_ (hO_ : Opn H_ B ⟨pa, pc, ma, mc⟩) => s27 L H_ (eye := eye) (s := s) hO_
  simp only [b2, ne_eq, not_true_eq_false, if_false, e25, e27] at q25 q27
  refine At.cq rfl rfl rfl rfl rfl rfl rfl rfl (q25 _ hO.a) ?_
  have stop27 := trivial
  (iterate 5 refine At.v rfl rfl rfl rfl rfl trivial ?_); refine At.al rfl rfl rfl rfl rfl fun r11 => ?_; refine At.al rfl rfl rfl rfl rfl fun r12 => ?_; refine At.st 1 rfl rfl rfl rfl rfl rfl rfl rfl rfl rfl rfl rfl ?_; refine At.st 0 rfl rfl rfl rfl rfl rfl rfl rfl rfl rfl rfl rfl ?_; (iterate 2 refine At.v rfl rfl rfl rfl rfl trivial ?_); refine At.regionEnd (At.seq (At.region ?_)); refine At.ld 3 rfl rfl rfl rfl rfl rfl rfl rfl rfl ?_; refine At.v rfl rfl rfl rfl rfl trivial ?_
  refine At.ld 2 rfl rfl rfl rfl rfl rfl rfl rfl rfl ?_
  clear stop27
  refine At.cq rfl rfl rfl rfl rfl rfl rfl rfl (q27 _ hO.a) ?_; (iterate 5 refine At.v rfl rfl rfl rfl rfl trivial ?_); refine At.al rfl rfl rfl rfl rfl fun r16 => ?_; refine At.v rfl rfl rfl rfl rfl trivial ?_; refine At.st 0 rfl rfl rfl rfl rfl rfl rfl rfl rfl rfl rfl rfl ?_; (iterate 2 refine At.v rfl rfl rfl rfl rfl trivial ?_); refine At.regionEnd (At.seq (At.region ?_)); (iterate 2 refine At.v rfl rfl rfl rfl rfl trivial ?_); refine At.regionEnd (At.seq (At.seq (At.region ?_)))
  refine At.v rfl rfl rfl rfl rfl trivial ?_; refine At.regionEnd ?_; refine At.block ?_
  refine At.lpk (X := { x : Nat // x ≤ B.prof.length }) [4, 8, 9, 10, 11, 12, 13, 14, 15, 16, 17, 18] (fun x => [(21, .int .i64 (x.1 : Int)), (19, .bool ((B.prof.take x.1).any fun p => decide (0 ≤ offL p eye s))), (20, .bool ((B.prof.take x.1).any fun p => decide (offL p eye s ≤ 0)))]) (fun x => .own r16 (.cells (List.toArray (c2 pt)) 29 (0, 0)) :: .own r12 (.cells (List.toArray (c2 hi)) 29 (0, 0)) :: .own r11 (.cells (List.toArray (c2 f)) 29 (0, 0)) :: .own r10 (.cells (List.toArray (c2 s)) 29 (0, 0)) :: .own r4 (.cells (List.toArray (bkC B ⟨pa, pc, ma, mc⟩)) 27 (0, 0)) :: H) (fun x => B.prof.length - x.1) (⟨0, Nat.zero_le _⟩) rfl ?_ (by repeat (first | exact trivial | refine ⟨rfl, ?_⟩)) sb
  rintro ⟨j, hj⟩ again
  simp only at again hj ⊢
  refine At.seq (At.seq (At.region ?_)); refine At.v rfl rfl rfl rfl rfl trivial ?_; refine At.fa 0 rfl rfl rfl rfl rfl rfl rfl ?_; refine At.ld 4 rfl rfl rfl rfl rfl rfl rfl rfl rfl ?_; refine At.ln rfl rfl rfl rfl rfl rfl rfl rfl ?_; refine At.cp rfl rfl rfl rfl rfl fun b57 h57 => ?_; refine At.regionEnd ?_
  cases b57
  rotate_left
  · have hlt : j < B.prof.length := by simp at h57; omega
    obtain ⟨b, off, e, hcj⟩ := hrp.el (List.getElem?_eq_getElem hlt)
    subst e
    have hpj := hb.2.2.1 _ (List.getElem_mem hlt)
    have q41 := fun H_ => s41 L H_ (p := B.prof[j]) (eye := eye) (s := s) hpj he hs
    have ag := again ⟨j + 1, hlt⟩ (by simp; omega)
    simp only [any_snoc hlt] at ag
    generalize ((B.prof.take j).any fun p => decide (0 ≤ offL p eye s)) = u1 at ag ⊢
    generalize ((B.prof.take j).any fun p => decide (offL p eye s ≤ 0)) = u2 at ag ⊢
    generalize offL B.prof[j] eye s = o at q41 ag
    have stop41 := trivial
    refine At.cond rfl ?_; refine At.skip (At.seq ?_); refine At.block ?_; refine At.seq ?_; refine At.drawJ hmix [] rfl ?_; refine Pool.fa 0 0 rfl rfl rfl rfl rfl rfl rfl rfl rfl ?_; refine Pool.ld 4 1 rfl rfl rfl rfl rfl rfl rfl rfl rfl rfl rfl ?_; refine Pool.v 2 rfl rfl rfl rfl rfl rfl rfl trivial ?_; refine Pool.q 3 rfl rfl rfl rfl rfl (q_ia rfl rfl rfl (by assumption)) rfl ?_; refine Pool.ldc 4 rfl rfl rfl rfl rfl rfl rfl hcj.a rfl rfl rfl ?_
    refine Pool.v 5 rfl rfl rfl rfl rfl rfl rfl trivial ?_; refine Pool.ld 3 6 rfl rfl rfl rfl rfl rfl rfl rfl rfl rfl rfl ?_
    clear stop41
    refine Pool.cq 7 rfl rfl rfl rfl rfl rfl rfl rfl rfl (fun H_ hs_ => q41 H_) ?_
    simp only [← sgn_ge o, ← sgn_le o] at ag
    cases u1
    · cases u2
      · refine Pool.v 8 rfl rfl rfl rfl rfl rfl rfl trivial ?_
        refine pool_done rfl rfl ?_; refine At.regionEnd (At.region ?_); (iterate 3 refine At.v rfl rfl rfl rfl rfl trivial ?_); refine At.cp rfl rfl rfl rfl rfl fun b71 h71 => ?_; (iterate 4 refine At.v rfl rfl rfl rfl rfl trivial ?_); refine At.cp rfl rfl rfl rfl rfl fun b76 h76 => ?_; (iterate 3 refine At.v rfl rfl rfl rfl rfl trivial ?_); refine At.regionEnd ?_; refine At.inBlock ?_; refine At.region ?_; refine At.v rfl rfl rfl rfl rfl trivial ?_; refine At.v rfl rfl rfl rfl rfl (by omega) ?_
        refine At.v rfl rfl rfl rfl rfl trivial ?_; refine At.regionEnd ?_
        simp only [Bool.false_or, h71, h76] at ag
        refine At.tA (ag)
      · refine Pool.v 8 rfl rfl rfl rfl rfl rfl rfl trivial ?_
        refine pool_done rfl rfl ?_; refine At.regionEnd (At.region ?_); (iterate 3 refine At.v rfl rfl rfl rfl rfl trivial ?_); refine At.cp rfl rfl rfl rfl rfl fun b71 h71 => ?_; (iterate 3 refine At.v rfl rfl rfl rfl rfl trivial ?_); (iterate 2 refine At.un rfl rfl rfl rfl ?_); (iterate 3 refine At.v rfl rfl rfl rfl rfl trivial ?_); refine At.regionEnd ?_; refine At.inBlock ?_; refine At.region ?_; refine At.v rfl rfl rfl rfl rfl trivial ?_; refine At.v rfl rfl rfl rfl rfl (by omega) ?_
        refine At.v rfl rfl rfl rfl rfl trivial ?_; refine At.regionEnd ?_
        simp only [Bool.false_or, Bool.true_or, h71] at ag
        refine At.tA (ag)
    · cases u2
      · refine Pool.v 8 rfl rfl rfl rfl rfl rfl rfl trivial ?_
        refine pool_done rfl rfl ?_; refine At.regionEnd (At.region ?_); (iterate 2 refine At.v rfl rfl rfl rfl rfl trivial ?_); (iterate 2 refine At.un rfl rfl rfl rfl ?_); (iterate 4 refine At.v rfl rfl rfl rfl rfl trivial ?_); refine At.cp rfl rfl rfl rfl rfl fun b76 h76 => ?_; (iterate 3 refine At.v rfl rfl rfl rfl rfl trivial ?_); refine At.regionEnd ?_; refine At.inBlock ?_; refine At.region ?_; refine At.v rfl rfl rfl rfl rfl trivial ?_; refine At.v rfl rfl rfl rfl rfl (by omega) ?_
        refine At.v rfl rfl rfl rfl rfl trivial ?_; refine At.regionEnd ?_
        simp only [Bool.false_or, Bool.true_or, h76] at ag
        refine At.tA (ag)
      · refine Pool.v 8 rfl rfl rfl rfl rfl rfl rfl trivial ?_
        refine pool_done rfl rfl ?_; refine At.regionEnd (At.region ?_); (iterate 2 refine At.v rfl rfl rfl rfl rfl trivial ?_); (iterate 2 refine At.un rfl rfl rfl rfl ?_); (iterate 3 refine At.v rfl rfl rfl rfl rfl trivial ?_); (iterate 2 refine At.un rfl rfl rfl rfl ?_); (iterate 3 refine At.v rfl rfl rfl rfl rfl trivial ?_); refine At.regionEnd ?_; refine At.inBlock ?_; refine At.region ?_; refine At.v rfl rfl rfl rfl rfl trivial ?_; refine At.v rfl rfl rfl rfl rfl (by omega) ?_
        refine At.v rfl rfl rfl rfl rfl trivial ?_; refine At.regionEnd ?_
        simp only [Bool.true_or] at ag
        refine At.tA (ag)
  · have e : j = B.prof.length := by simp at h57; omega
    subst e
    rw [List.take_length]
    rcases hcs with ⟨rfl, rfl, rfl, rfl, rfl⟩ | ⟨rfl, ex⟩
    · generalize (B.prof.any fun p => decide (0 ≤ offL p eye s)) = u1 at hfd ⊢
      generalize (B.prof.any fun p => decide (offL p eye s ≤ 0)) = u2 at hfd ⊢
      cases u1
      · refine At.cond rfl ?_
        refine At.exit rfl ?_; refine At.seq (At.seq (At.region ?_)); refine At.v rfl rfl rfl rfl rfl trivial ?_; refine At.cp rfl rfl rfl rfl rfl fun b79 h79 => ?_; refine At.v rfl rfl rfl rfl rfl trivial ?_
        obtain rfl : b79 = false := h79.symm.trans (by kernel_rfl)
        refine At.v rfl rfl rfl rfl rfl trivial ?_; refine At.cp rfl rfl rfl rfl rfl fun b82 h82 => ?_; (iterate 2 refine At.v rfl rfl rfl rfl rfl trivial ?_)
        obtain rfl : b82 = false := h82.symm.trans (by kernel_rfl)
        (iterate 2 refine At.v rfl rfl rfl rfl rfl trivial ?_); refine At.qb rfl rfl rfl rfl (q_neqB rfl rfl rfl) fun b87 h87 => ?_; (iterate 2 refine At.v rfl rfl rfl rfl rfl trivial ?_)
        obtain rfl : b87 = false := h87.symm.trans (by kernel_rfl)
        (iterate 3 refine At.v rfl rfl rfl rfl rfl trivial ?_); refine At.un rfl rfl rfl rfl ?_; refine At.v rfl rfl rfl rfl rfl trivial ?_; refine At.qb rfl rfl rfl rfl (q_neqB rfl rfl rfl) fun b95 h95 => ?_; refine At.v rfl rfl rfl rfl rfl trivial ?_; refine At.regionEnd ?_
        obtain rfl : b95 = false := h95.symm.trans (by kernel_rfl)
        refine At.cond rfl ?_; refine At.skip (At.seq (At.seq (At.region ?_))); (iterate 2 refine At.v rfl rfl rfl rfl rfl trivial ?_); refine At.regionEnd ?_; refine At.cond rfl ?_; refine At.seq (At.region ?_); refine At.ld 2 rfl rfl rfl rfl rfl rfl rfl rfl rfl ?_; refine At.q rfl rfl rfl rfl (q_build rfl rfl rfl) ?_; refine At.qb rfl rfl rfl rfl (q_eqS rfl rfl rfl rfl rfl rfl rfl rfl) fun b101 h101 => ?_; refine At.v rfl rfl rfl rfl rfl trivial ?_
        obtain rfl : b101 = true := h101.symm.trans (by kernel_rfl)
        refine At.ld 1 rfl rfl rfl rfl rfl rfl rfl rfl rfl ?_; refine At.q rfl rfl rfl rfl (q_build rfl rfl rfl) ?_; refine At.qb rfl rfl rfl rfl (q_eqS rfl rfl rfl rfl rfl rfl rfl rfl) fun b105 h105 => ?_; (iterate 2 refine At.v rfl rfl rfl rfl rfl trivial ?_)
        obtain rfl : b105 = true := h105.symm.trans (by kernel_rfl)
        refine At.v rfl rfl rfl rfl rfl trivial ?_; refine At.cp rfl rfl rfl rfl rfl fun b109 h109 => ?_; (iterate 2 refine At.v rfl rfl rfl rfl rfl trivial ?_)
        obtain rfl : b109 = true := h109.symm.trans (by kernel_rfl)
        refine At.ld 0 rfl rfl rfl rfl rfl rfl rfl rfl rfl ?_; refine At.q rfl rfl rfl rfl (q_build rfl rfl rfl) ?_; refine At.qb rfl rfl rfl rfl (q_eqS rfl rfl rfl rfl rfl rfl rfl rfl) fun b114 h114 => ?_; (iterate 2 refine At.v rfl rfl rfl rfl rfl trivial ?_)
        obtain rfl : b114 = true := h114.symm.trans (by kernel_rfl)
        subst hL
        refine At.cq rfl rfl rfl rfl rfl rfl rfl rfl (s22 hG.a) ?_; (iterate 2 refine At.v rfl rfl rfl rfl rfl trivial ?_); refine At.regionEnd ?_
        exact hLB Tryz.func5 (.inr ⟨_, rfl⟩) rfl (.tmp rfl .nil) (⟨by rfl, rfl⟩)
      · cases u2
        · refine At.cond rfl ?_
          refine At.exit rfl ?_; refine At.seq (At.seq (At.region ?_)); refine At.v rfl rfl rfl rfl rfl trivial ?_; refine At.cp rfl rfl rfl rfl rfl fun b79 h79 => ?_; refine At.v rfl rfl rfl rfl rfl trivial ?_
          obtain rfl : b79 = false := h79.symm.trans (by kernel_rfl)
          refine At.v rfl rfl rfl rfl rfl trivial ?_; refine At.cp rfl rfl rfl rfl rfl fun b82 h82 => ?_; (iterate 2 refine At.v rfl rfl rfl rfl rfl trivial ?_)
          obtain rfl : b82 = false := h82.symm.trans (by kernel_rfl)
          (iterate 2 refine At.v rfl rfl rfl rfl rfl trivial ?_); refine At.qb rfl rfl rfl rfl (q_neqB rfl rfl rfl) fun b87 h87 => ?_; (iterate 2 refine At.v rfl rfl rfl rfl rfl trivial ?_)
          obtain rfl : b87 = false := h87.symm.trans (by kernel_rfl)
          (iterate 5 refine At.v rfl rfl rfl rfl rfl trivial ?_); refine At.qb rfl rfl rfl rfl (q_neqB rfl rfl rfl) fun b95 h95 => ?_; refine At.v rfl rfl rfl rfl rfl trivial ?_; refine At.regionEnd ?_
          obtain rfl : b95 = false := h95.symm.trans (by kernel_rfl)
          refine At.cond rfl ?_; refine At.skip (At.seq (At.seq (At.region ?_))); (iterate 2 refine At.v rfl rfl rfl rfl rfl trivial ?_); refine At.regionEnd ?_; refine At.cond rfl ?_; refine At.seq (At.region ?_); refine At.ld 2 rfl rfl rfl rfl rfl rfl rfl rfl rfl ?_; refine At.q rfl rfl rfl rfl (q_build rfl rfl rfl) ?_; refine At.qb rfl rfl rfl rfl (q_eqS rfl rfl rfl rfl rfl rfl rfl rfl) fun b101 h101 => ?_; refine At.v rfl rfl rfl rfl rfl trivial ?_
          obtain rfl : b101 = true := h101.symm.trans (by kernel_rfl)
          refine At.ld 1 rfl rfl rfl rfl rfl rfl rfl rfl rfl ?_; refine At.q rfl rfl rfl rfl (q_build rfl rfl rfl) ?_; refine At.qb rfl rfl rfl rfl (q_eqS rfl rfl rfl rfl rfl rfl rfl rfl) fun b105 h105 => ?_; (iterate 2 refine At.v rfl rfl rfl rfl rfl trivial ?_)
          obtain rfl : b105 = true := h105.symm.trans (by kernel_rfl)
          refine At.v rfl rfl rfl rfl rfl trivial ?_; refine At.cp rfl rfl rfl rfl rfl fun b109 h109 => ?_; (iterate 2 refine At.v rfl rfl rfl rfl rfl trivial ?_)
          obtain rfl : b109 = true := h109.symm.trans (by kernel_rfl)
          refine At.ld 0 rfl rfl rfl rfl rfl rfl rfl rfl rfl ?_; refine At.q rfl rfl rfl rfl (q_build rfl rfl rfl) ?_; refine At.qb rfl rfl rfl rfl (q_eqS rfl rfl rfl rfl rfl rfl rfl rfl) fun b114 h114 => ?_; (iterate 2 refine At.v rfl rfl rfl rfl rfl trivial ?_)
          obtain rfl : b114 = true := h114.symm.trans (by kernel_rfl)
          subst hL
          refine At.cq rfl rfl rfl rfl rfl rfl rfl rfl (s22 hG.a) ?_; (iterate 2 refine At.v rfl rfl rfl rfl rfl trivial ?_); refine At.regionEnd ?_
          exact hLB Tryz.func5 (.inr ⟨_, rfl⟩) rfl (.tmp rfl .nil) (⟨by rfl, rfl⟩)
        · cases hfd
    · rw [show (B.prof.any fun p => decide (0 ≤ offL p eye s)) = true from by simp only [Bool.true_eq, Bool.and_eq_true] at hfd; exact hfd.1, show (B.prof.any fun p => decide (offL p eye s ≤ 0)) = true from by simp only [Bool.true_eq, Bool.and_eq_true] at hfd; exact hfd.2]
      obtain ⟨l1, l2, l3, k1, k2, k3, k4, krow, kpart, kpd, line, hon, high⟩ := ex
      have hfoot := foot_pos hz
      have hE := he
      unfold EyeOk at hE
      have m1 := mul_bd (a := eye) (b := hi.2) (A := 90) (B := 6000) (by omega) (by omega)
      have m2 := mul_bd (a := hi.1 - eye * hi.2) (b := f.2) (A := 1080000) (B := 6000) (by omega) (by omega)
      have m3 := mul_bd (a := (hi.1 - eye * hi.2) * f.2) (b := s.2) (A := 1080000 * 6000) (B := 20) m2 (by omega)
      have m4 := mul_bd (a := f.1) (b := s.1) (A := 360000) (B := 20) (by omega) (by omega)
      have m5 := mul_bd (a := f.1 * s.1) (b := hi.2) (A := 360000 * 20) (B := 6000) m4 (by omega)
      have stop42 := trivial
      refine At.cond rfl ?_; refine At.exit rfl ?_; refine At.seq (At.seq (At.region ?_)); refine At.v rfl rfl rfl rfl rfl trivial ?_; refine At.cp rfl rfl rfl rfl rfl fun b79 h79 => ?_; refine At.v rfl rfl rfl rfl rfl trivial ?_
      obtain rfl : b79 = false := h79.symm.trans (by kernel_rfl)
      refine At.v rfl rfl rfl rfl rfl trivial ?_; refine At.cp rfl rfl rfl rfl rfl fun b82 h82 => ?_; (iterate 2 refine At.v rfl rfl rfl rfl rfl trivial ?_)
      obtain rfl : b82 = false := h82.symm.trans (by kernel_rfl)
      (iterate 2 refine At.v rfl rfl rfl rfl rfl trivial ?_); refine At.qb rfl rfl rfl rfl (q_neqB rfl rfl rfl) fun b87 h87 => ?_; (iterate 2 refine At.v rfl rfl rfl rfl rfl trivial ?_)
      obtain rfl : b87 = false := h87.symm.trans (by kernel_rfl)
      (iterate 5 refine At.v rfl rfl rfl rfl rfl trivial ?_); refine At.qb rfl rfl rfl rfl (q_neqB rfl rfl rfl) fun b95 h95 => ?_; refine At.v rfl rfl rfl rfl rfl trivial ?_; refine At.regionEnd ?_
      obtain rfl : b95 = false := h95.symm.trans (by kernel_rfl)
      refine At.cond rfl ?_; refine At.skip (At.seq (At.seq (At.region ?_))); (iterate 2 refine At.v rfl rfl rfl rfl rfl trivial ?_); refine At.regionEnd ?_; refine At.cond rfl ?_; refine At.skip (At.seq (At.seq (At.region ?_))); refine At.ld 2 rfl rfl rfl rfl rfl rfl rfl rfl rfl ?_; refine At.cq rfl rfl rfl rfl rfl rfl rfl rfl (s42 L _ l1 ⟨by omega, by omega⟩ ⟨by omega, by omega⟩) ?_; (iterate 2 refine At.v rfl rfl rfl rfl rfl trivial ?_); refine At.ld 1 rfl rfl rfl rfl rfl rfl rfl rfl rfl ?_
      refine At.cq rfl rfl rfl rfl rfl rfl rfl rfl (s42 L _ l2 ⟨by omega, by omega⟩ ⟨by omega, by omega⟩) ?_; (iterate 3 refine At.v rfl rfl rfl rfl rfl trivial ?_); refine At.ld 0 rfl rfl rfl rfl rfl rfl rfl rfl rfl ?_; refine At.cq rfl rfl rfl rfl rfl rfl rfl rfl (s42 L _ l3 ⟨by omega, by omega⟩ ⟨by omega, by omega⟩) ?_; (iterate 3 refine At.v rfl rfl rfl rfl rfl trivial ?_); refine At.fa 0 rfl rfl rfl rfl rfl rfl rfl ?_; refine At.ld 2 rfl rfl rfl rfl rfl rfl rfl rfl rfl ?_
      refine At.cp rfl rfl rfl rfl rfl fun b135 h135 => ?_; (iterate 2 refine At.v rfl rfl rfl rfl rfl trivial ?_)
      obtain rfl : b135 = false := h135.symm.trans (decide_eq_false (by omega))
      refine At.fa 0 rfl rfl rfl rfl rfl rfl rfl ?_; refine At.ld 2 rfl rfl rfl rfl rfl rfl rfl rfl rfl ?_; refine At.cp rfl rfl rfl rfl rfl fun b140 h140 => ?_; (iterate 2 refine At.v rfl rfl rfl rfl rfl trivial ?_)
      obtain rfl : b140 = false := h140.symm.trans (decide_eq_false (by omega))
      refine At.fa 1 rfl rfl rfl rfl rfl rfl rfl ?_; refine At.ld 2 rfl rfl rfl rfl rfl rfl rfl rfl rfl ?_; refine At.cp rfl rfl rfl rfl rfl fun b145 h145 => ?_; (iterate 2 refine At.v rfl rfl rfl rfl rfl trivial ?_)
      obtain rfl : b145 = false := h145.symm.trans (decide_eq_false (by omega))
      refine At.fa 0 rfl rfl rfl rfl rfl rfl rfl ?_; refine At.ld 1 rfl rfl rfl rfl rfl rfl rfl rfl rfl ?_; refine At.cp rfl rfl rfl rfl rfl fun b150 h150 => ?_; (iterate 2 refine At.v rfl rfl rfl rfl rfl trivial ?_)
      obtain rfl : b150 = false := h150.symm.trans (decide_eq_false (by omega))
      refine At.fa 0 rfl rfl rfl rfl rfl rfl rfl ?_; refine At.ld 1 rfl rfl rfl rfl rfl rfl rfl rfl rfl ?_; refine At.cp rfl rfl rfl rfl rfl fun b155 h155 => ?_; (iterate 2 refine At.v rfl rfl rfl rfl rfl trivial ?_)
      obtain rfl : b155 = false := h155.symm.trans (decide_eq_false (by omega))
      refine At.fa 1 rfl rfl rfl rfl rfl rfl rfl ?_; refine At.ld 1 rfl rfl rfl rfl rfl rfl rfl rfl rfl ?_; refine At.cp rfl rfl rfl rfl rfl fun b160 h160 => ?_; (iterate 2 refine At.v rfl rfl rfl rfl rfl trivial ?_)
      obtain rfl : b160 = false := h160.symm.trans (decide_eq_false (by omega))
      refine At.v rfl rfl rfl rfl rfl trivial ?_; refine At.cqb rfl rfl rfl rfl rfl rfl rfl rfl (s43 L _) fun b164 h164 => ?_; (iterate 3 refine At.v rfl rfl rfl rfl rfl trivial ?_)
      obtain rfl : b164 = true := h164.symm.trans (decide_eq_true (by omega))
      refine At.fa 0 rfl rfl rfl rfl rfl rfl rfl ?_; refine At.ld 0 rfl rfl rfl rfl rfl rfl rfl rfl rfl ?_; refine At.cp rfl rfl rfl rfl rfl fun b170 h170 => ?_; (iterate 2 refine At.v rfl rfl rfl rfl rfl trivial ?_)
      obtain rfl : b170 = false := h170.symm.trans (decide_eq_false (by omega))
      refine At.fa 0 rfl rfl rfl rfl rfl rfl rfl ?_; refine At.ld 0 rfl rfl rfl rfl rfl rfl rfl rfl rfl ?_; refine At.fa 1 rfl rfl rfl rfl rfl rfl rfl ?_; refine At.ld 0 rfl rfl rfl rfl rfl rfl rfl rfl rfl ?_; refine At.cp rfl rfl rfl rfl rfl fun b177 h177 => ?_; (iterate 2 refine At.v rfl rfl rfl rfl rfl trivial ?_)
      obtain rfl : b177 = false := h177.symm.trans (decide_eq_false (by omega))
      refine At.fa 1 rfl rfl rfl rfl rfl rfl rfl ?_; refine At.ld 0 rfl rfl rfl rfl rfl rfl rfl rfl rfl ?_; refine At.cp rfl rfl rfl rfl rfl fun b182 h182 => ?_; refine At.v rfl rfl rfl rfl rfl trivial ?_; refine At.regionEnd ?_
      obtain rfl : b182 = false := h182.symm.trans (decide_eq_false (by omega))
      refine At.cond rfl ?_; refine At.skip (At.seq (At.seq (At.region ?_))); refine At.fa 0 rfl rfl rfl rfl rfl rfl rfl ?_; refine At.ld 1 rfl rfl rfl rfl rfl rfl rfl rfl rfl ?_; refine At.v rfl rfl rfl rfl rfl trivial ?_; refine At.fa 1 rfl rfl rfl rfl rfl rfl rfl ?_; refine At.ld 1 rfl rfl rfl rfl rfl rfl rfl rfl rfl ?_; (iterate 2 refine At.v rfl rfl rfl rfl rfl (by omega) ?_); refine At.fa 1 rfl rfl rfl rfl rfl rfl rfl ?_; refine At.ld 2 rfl rfl rfl rfl rfl rfl rfl rfl rfl ?_
      refine At.v rfl rfl rfl rfl rfl (by omega) ?_; refine At.fa 1 rfl rfl rfl rfl rfl rfl rfl ?_; refine At.ld 3 rfl rfl rfl rfl rfl rfl rfl rfl rfl ?_; refine At.v rfl rfl rfl rfl rfl (by omega) ?_; refine At.fa 0 rfl rfl rfl rfl rfl rfl rfl ?_; refine At.ld 2 rfl rfl rfl rfl rfl rfl rfl rfl rfl ?_; refine At.fa 0 rfl rfl rfl rfl rfl rfl rfl ?_; refine At.ld 3 rfl rfl rfl rfl rfl rfl rfl rfl rfl ?_; refine At.v rfl rfl rfl rfl rfl (by omega) ?_; refine At.fa 1 rfl rfl rfl rfl rfl rfl rfl ?_
      refine At.ld 1 rfl rfl rfl rfl rfl rfl rfl rfl rfl ?_; refine At.v rfl rfl rfl rfl rfl (by omega) ?_; refine At.cp rfl rfl rfl rfl rfl fun b205 h205 => ?_; refine At.regionEnd ?_
      obtain rfl : b205 = false := h205.symm.trans (decide_eq_false (by omega))
      refine At.cond rfl ?_; refine At.skip (At.seq (At.region ?_)); refine At.v rfl rfl rfl rfl rfl trivial ?_; refine At.regionEnd (At.seq (At.seq (At.region ?_))); refine At.v rfl rfl rfl rfl rfl trivial ?_; refine At.regionEnd ?_; refine At.block ?_
      clear stop42
      refine At.lpk (X := { x : Nat // x + 1 ≤ B.prof.length }) [4, 8, 11, 12, 15, 16] (fun x => [(24, .int .i64 (x.1 : Int)), (23, .bool (onTo B f hi x.1))]) (fun x => .own r16 (.cells (List.toArray (c2 pt)) 29 (0, 0)) :: .own r12 (.cells (List.toArray (c2 hi)) 29 (0, 0)) :: .own r11 (.cells (List.toArray (c2 f)) 29 (0, 0)) :: .own r10 (.cells (List.toArray (c2 s)) 29 (0, 0)) :: .own r4 (.cells (List.toArray (bkC B ⟨pa, pc, ma, mc⟩)) 27 (0, 0)) :: H) (fun x => B.prof.length - x.1) (⟨0, by omega⟩) rfl ?_ (by repeat (first | exact trivial | refine ⟨rfl, ?_⟩)) sb
      rintro ⟨i, hi1⟩ again2
      simp only at again2 hi1 ⊢
      refine At.seq (At.seq (At.region ?_)); refine At.v rfl rfl rfl rfl rfl trivial ?_; refine At.v rfl rfl rfl rfl rfl (by omega) ?_; refine At.fa 0 rfl rfl rfl rfl rfl rfl rfl ?_; refine At.ld 4 rfl rfl rfl rfl rfl rfl rfl rfl rfl ?_; refine At.ln rfl rfl rfl rfl rfl rfl rfl rfl ?_; refine At.cp rfl rfl rfl rfl rfl fun b211 h211 => ?_; refine At.regionEnd ?_
      cases b211
      · have e : i = B.prof.length - 1 := by simp at h211; omega
        subst e
        rw [hon]
        have h00 : 0 < B.prof.length := by omega
        obtain ⟨b0, off0, e0, hc0⟩ := hrp.el (List.getElem?_eq_getElem h00)
        cases e0
        have ef : footM B = B.prof[0].2 := by
          unfold footM
          rw [List.headD_eq_head?_getD, List.head?_eq_getElem?, List.getElem?_eq_getElem h00]
          rfl
        rw [ef] at high hfoot
        have hp0 := hb.2.2.1 _ (List.getElem_mem h00)
        unfold PtOk at hp0
        generalize B.prof[0] = p0 at hc0 high hfoot hp0
        have n1 := mul_bd (a := p0.2) (b := hi.2) (A := 90) (B := 6000) (by omega) (by omega)
        have n2 := mul_bd (a := hi.1 - p0.2 * hi.2) (b := pt.2) (A := 1080000) (B := 180000) (by omega) (by omega)
        have n3 := mul_bd (a := r) (b := pt.2) (A := 90) (B := 180000) (by omega) (by omega)
        have n4 := mul_bd (a := r * pt.2 + pt.1) (b := B.size) (A := 90 * 180000 + 180000) (B := 30) (by omega) (by omega)
        have n5 := mul_bd (a := (r * pt.2 + pt.1) * B.size) (b := hi.2) (A := (90 * 180000 + 180000) * 30) (B := 6000) n4 (by omega)
        refine At.cond rfl ?_; refine At.exit rfl ?_; refine At.seq ?_; refine At.drawJ hmix [] rfl ?_; refine Pool.v 0 rfl rfl rfl rfl rfl rfl rfl trivial ?_; refine Pool.v 1 rfl rfl rfl rfl rfl rfl rfl trivial ?_; refine Pool.fa 0 2 rfl rfl rfl rfl rfl rfl rfl rfl rfl ?_; refine Pool.ld 1 3 rfl rfl rfl rfl rfl rfl rfl rfl rfl rfl rfl ?_; refine Pool.fa 0 4 rfl rfl rfl rfl rfl rfl rfl rfl rfl ?_; refine Pool.ld 4 5 rfl rfl rfl rfl rfl rfl rfl rfl rfl rfl rfl ?_
        refine Pool.q 6 rfl rfl rfl rfl rfl (q_ia rfl rfl rfl (by assumption)) rfl ?_; refine Pool.faE 7 rfl rfl rfl rfl rfl rfl rfl rfl ?_; refine Pool.ldc 8 rfl rfl rfl rfl rfl rfl rfl (hc0.s 1 1 rfl) rfl rfl rfl ?_; refine Pool.fa 1 9 rfl rfl rfl rfl rfl rfl rfl rfl rfl ?_; refine Pool.ld 1 10 rfl rfl rfl rfl rfl rfl rfl rfl rfl rfl rfl ?_; refine Pool.v 11 rfl rfl rfl rfl rfl rfl rfl (by omega) ?_; refine Pool.v 12 rfl rfl rfl rfl rfl rfl rfl (by omega) ?_
        refine Pool.fa 1 13 rfl rfl rfl rfl rfl rfl rfl rfl rfl ?_; refine Pool.ld 0 14 rfl rfl rfl rfl rfl rfl rfl rfl rfl rfl rfl ?_; refine Pool.v 15 rfl rfl rfl rfl rfl rfl rfl (by omega) ?_; refine Pool.v 16 rfl rfl rfl rfl rfl rfl rfl trivial ?_; refine Pool.fa 1 17 rfl rfl rfl rfl rfl rfl rfl rfl rfl ?_; refine Pool.ld 0 18 rfl rfl rfl rfl rfl rfl rfl rfl rfl rfl rfl ?_; refine Pool.v 19 rfl rfl rfl rfl rfl rfl rfl (by omega) ?_; refine Pool.fa 0 20 rfl rfl rfl rfl rfl rfl rfl rfl rfl ?_
        refine Pool.ld 0 21 rfl rfl rfl rfl rfl rfl rfl rfl rfl rfl rfl ?_; refine Pool.v 22 rfl rfl rfl rfl rfl rfl rfl (by omega) ?_; refine Pool.fa 1 23 rfl rfl rfl rfl rfl rfl rfl rfl rfl ?_; refine Pool.ld 4 24 rfl rfl rfl rfl rfl rfl rfl rfl rfl rfl rfl ?_; refine Pool.v 25 rfl rfl rfl rfl rfl rfl rfl (by omega) ?_; refine Pool.fa 1 26 rfl rfl rfl rfl rfl rfl rfl rfl rfl ?_; refine Pool.ld 1 27 rfl rfl rfl rfl rfl rfl rfl rfl rfl rfl rfl ?_; refine Pool.v 28 rfl rfl rfl rfl rfl rfl rfl (by omega) ?_
        refine Pool.cp 29 rfl rfl rfl rfl rfl rfl rfl fun b260 h260 => ?_; refine Pool.v 30 rfl rfl rfl rfl rfl rfl rfl trivial ?_; refine Pool.v 31 rfl rfl rfl rfl rfl rfl rfl trivial ?_
        obtain rfl : b260 = true := h260.symm.trans (decide_eq_true (by omega))
        subst hL
        refine Pool.cq 32 rfl rfl rfl rfl rfl rfl rfl rfl rfl (fun H_ hs_ => s22 hG.a) ?_; refine Pool.v 33 rfl rfl rfl rfl rfl rfl rfl trivial ?_; refine Pool.v 34 rfl rfl rfl rfl rfl rfl rfl trivial ?_; refine pool_done rfl rfl ?_; refine At.regionEnd ?_
        exact hLB Tryz.func5 (.inr ⟨_, rfl⟩) rfl (.tmp rfl .nil) (⟨by rfl, rfl⟩)
      · have hlt : i + 1 < B.prof.length := by simp at h211; omega
        obtain ⟨b, off, e0, hci⟩ := hrp.el (List.getElem?_eq_getElem (show i < B.prof.length by omega))
        cases e0
        obtain ⟨b', off', e1, hcj⟩ := hrp.el (List.getElem?_eq_getElem hlt)
        cases e1
        have g1 : B.prof.getD i (0, 0) = B.prof[i] := by rw [List.getD_eq_getElem?_getD, List.getElem?_eq_getElem (by omega)]; rfl
        have g2 : B.prof.getD (i + 1) (0, 0) = B.prof[i + 1] := by rw [List.getD_eq_getElem?_getD, List.getElem?_eq_getElem hlt]; rfl
        have q44 := fun H_ => s44 L H_ (p := B.prof[i]) (q := B.prof[i + 1]) (f := f) (h := hi) (hb.2.2.1 _ (List.getElem_mem _)) (hb.2.2.1 _ (List.getElem_mem _)) (by omega) k2 k3 k4
        have ag := again2 ⟨i + 1, by omega⟩ (by simp; omega)
        simp only [onTo_succ, g1, g2] at ag
        generalize onTo B f hi i = u at ag ⊢
        cases u
        · have stop44 := trivial
          refine At.cond rfl ?_; refine At.skip (At.seq ?_); refine At.block ?_; refine At.drawJ hmix [] rfl ?_; refine Pool.v 0 rfl rfl rfl rfl rfl rfl rfl trivial ?_; refine Pool.v 1 rfl rfl rfl rfl rfl rfl rfl trivial ?_; refine Pool.fa 0 2 rfl rfl rfl rfl rfl rfl rfl rfl rfl ?_; refine Pool.ld 4 3 rfl rfl rfl rfl rfl rfl rfl rfl rfl rfl rfl ?_; refine Pool.v 4 rfl rfl rfl rfl rfl rfl rfl trivial ?_; refine Pool.q 5 rfl rfl rfl rfl rfl (q_ia rfl rfl rfl (by assumption)) rfl ?_
          refine Pool.ldc 6 rfl rfl rfl rfl rfl rfl rfl hci.a rfl rfl rfl ?_; refine Pool.fa 0 7 rfl rfl rfl rfl rfl rfl rfl rfl rfl ?_; refine Pool.ld 4 8 rfl rfl rfl rfl rfl rfl rfl rfl rfl rfl rfl ?_; refine Pool.v 9 rfl rfl rfl rfl rfl rfl rfl trivial ?_; refine Pool.v 10 rfl rfl rfl rfl rfl rfl rfl (by omega) ?_; refine Pool.q 11 rfl rfl rfl rfl rfl (q_ia rfl rfl rfl (by assumption)) rfl ?_; refine Pool.ldc 12 rfl rfl rfl rfl rfl rfl rfl hcj.a rfl rfl rfl ?_
          refine Pool.ld 2 13 rfl rfl rfl rfl rfl rfl rfl rfl rfl rfl rfl ?_; refine Pool.ld 1 14 rfl rfl rfl rfl rfl rfl rfl rfl rfl rfl rfl ?_
          clear stop44
          refine Pool.cq 15 rfl rfl rfl rfl rfl rfl rfl rfl rfl (fun H_ hs_ => q44 H_) ?_
          simp only [Bool.false_or] at ag
          refine Pool.v 16 rfl rfl rfl rfl rfl rfl rfl trivial ?_; refine Pool.v 17 rfl rfl rfl rfl rfl rfl rfl trivial ?_; refine pool_done rfl rfl ?_; refine At.regionEnd ?_; refine At.inBlock ?_; refine At.region ?_; refine At.v rfl rfl rfl rfl rfl trivial ?_; refine At.v rfl rfl rfl rfl rfl (by omega) ?_; refine At.v rfl rfl rfl rfl rfl trivial ?_; refine At.regionEnd ?_
          refine At.tA (ag)
        · simp only [Bool.true_or] at ag
          refine At.cond rfl ?_; refine At.skip (At.seq ?_); refine At.block ?_; refine At.drawJ hmix [] rfl ?_; refine Pool.v 0 rfl rfl rfl rfl rfl rfl rfl trivial ?_; refine Pool.v 1 rfl rfl rfl rfl rfl rfl rfl trivial ?_; refine Pool.un 2 rfl rfl rfl rfl rfl rfl ?_; refine Pool.un 3 rfl rfl rfl rfl rfl rfl ?_; refine Pool.un 4 rfl rfl rfl rfl rfl rfl ?_; refine Pool.un 5 rfl rfl rfl rfl rfl rfl ?_; refine Pool.un 6 rfl rfl rfl rfl rfl rfl ?_; refine Pool.un 7 rfl rfl rfl rfl rfl rfl ?_
          refine Pool.un 8 rfl rfl rfl rfl rfl rfl ?_; refine Pool.un 9 rfl rfl rfl rfl rfl rfl ?_; refine Pool.un 10 rfl rfl rfl rfl rfl rfl ?_; refine Pool.un 11 rfl rfl rfl rfl rfl rfl ?_; refine Pool.un 12 rfl rfl rfl rfl rfl rfl ?_; refine Pool.un 13 rfl rfl rfl rfl rfl rfl ?_; refine Pool.un 14 rfl rfl rfl rfl rfl rfl ?_; refine Pool.un 15 rfl rfl rfl rfl rfl rfl ?_; refine Pool.v 16 rfl rfl rfl rfl rfl rfl rfl trivial ?_; refine Pool.v 17 rfl rfl rfl rfl rfl rfl rfl trivial ?_
          refine pool_done rfl rfl ?_; refine At.regionEnd ?_; refine At.inBlock ?_; refine At.region ?_; refine At.v rfl rfl rfl rfl rfl trivial ?_; refine At.v rfl rfl rfl rfl rfl (by omega) ?_; refine At.v rfl rfl rfl rfl rfl trivial ?_; refine At.regionEnd ?_
          refine At.tA (ag)
end Go.Gx
end

section
set_option linter.unusedSimpArgs false
set_option linter.unusedVariables false
namespace Go.Gx
open Go Go.Conc Go.Proofs Go.ChangeShapes Go.RowKit YtokdmiiejfmomaaGreatDoor
set_option maxRecDepth 100000
theorem ip5 : Tryz.prog.inPlace 5 = [] := by kernel_rfl
theorem uf5 : Tryz.prog.unfollowed 5 = true := by kernel_rfl
theorem rc5 : Tryz.prog.recurses 5 = true := by kernel_rfl
theorem vn5 : Tryz.prog.varsNamed 5 = ["velarium/canvas.checks"] := by kernel_rfl
theorem closed5 : joinedFacts Tryz.prog 5 Tryz.f5 Rows.canvasExactSpec Rows.canvasExactRow = true := by
  unfold joinedFacts
  rewrite [ip5, uf5, rc5, vn5, enter1, lf1, make1]
  kernel_rfl
theorem fnm5 : Tryz.prog.funcNamed "velarium/velariumlaw02.CanvasExact" = some 5 := by kernel_rfl
theorem inst5 : Tryz.f5.isInstance Tryz.prog Rows.canvasExactRow.origin Rows.canvasExactRow.targs := of_decide_eq_true (by kernel_rfl)
theorem wrap5 : Tryz.f5.isWrapper Tryz.prog Rows.canvasExactRow.wrapper Rows.canvasExactRow.mainSum := by unfold Func.isWrapper; first | (rw [if_pos (by decide +kernel)]; kernel_rfl) | (rw [if_neg (by decide +kernel)]; exact ⟨rfl, rfl⟩)
theorem goes5 : Tryz.prog.goes 5 = true := by kernel_rfl
theorem wbt5 : Rows.canvasExactRow.wfByText (OpenSpec.ofChange Rows.canvasExactSpec) = true := by kernel_rfl
theorem wants5 : (Tryz.f5.params.toList.all fun t => !Tryz.prog.wantsStandIn t) = true := by kernel_rfl
theorem lifted5 (os : Os) (started : os.Started) (H : Type) (enc : TypeId × Value → H) :
    ReturnsInLeavingWide {} Tryz.checked os 5 .any (fun w args => (Rows.canvasExactSpec.pre enc Tryz.prog Tryz.f5 [] false w args ∧ laidMetH Tryz.prog laid1 w) ∧ sizedMet enc Tryz.prog Tryz.f5 (OpenSpec.ofChange Rows.canvasExactSpec) false w args) (Rows.canvasExactSpec.post enc Tryz.prog Tryz.f5 false true false false) := by
  refine law_lift Tryz.func5 (by kernel_rfl) rfl rfl (by kernel_rfl) os started H enc #[.agg #[.slice none 0 0, .int .i64 0, .int .i64 0, .int .i64 0, .slice none 0 0], .int .u8 0, .int .u8 0, .int .i8 0]
    (World.shaped_of_RefB (by kernel_rfl) (by kernel_rfl)) (by kernel_rfl) (by kernel_rfl) (by kernel_rfl) ?_
  intro W base args ds ps hval hA
  rw [Tryz.params5] at hval hA
  obtain ⟨v0, vs0, d0, ds0, p0, q0, e0, rfl, rfl, h0, hA⟩ := trodAll_cons hA
  obtain ⟨v1, vs1, d1, ds1, p1, q1, rfl, rfl, rfl, h1, hA⟩ := trodAll_cons hA
  obtain ⟨v2, vs2, d2, ds2, p2, q2, rfl, rfl, rfl, h2, hA⟩ := trodAll_cons hA
  obtain ⟨v3, vs3, d3, ds3, p3, q3, rfl, rfl, rfl, h3, hA⟩ := trodAll_cons hA
  obtain ⟨rfl, rfl, rfl⟩ := trodAll_nil hA
  obtain rfl : args = #[v0, v1, v2, v3] := Array.toList_inj.1 e0
  obtain ⟨B0, A0, Hs0, rfl, hsh0, hb0⟩ := open_book (hval 0 27 _ rfl rfl) h0
  obtain ⟨n1, rfl, rfl, rfl, w1⟩ := open_int Tryz.underlying5 (hval 1 5 _ rfl rfl) h1
  obtain ⟨n2, rfl, rfl, rfl, w2⟩ := open_int Tryz.underlying5 (hval 2 5 _ rfl rfl) h2
  obtain ⟨n3, rfl, rfl, rfl, w3⟩ := open_int Tryz.underlying53 (hval 3 53 _ rfl rfl) h3
  exact ⟨rfl, Hs0, hsh0, fun Post => law5 hsh0.glo hsh0.ro (hb0.a (Sub.append_left _ _)) (wf_u8 w1) (wf_u8 w2) (wf_i8 w3)⟩
theorem said5 : Rows.CanvasExactSaid :=
  OpenClaim.holds_of_wide_leaving 5 Tryz.f5 rfl rfl rfl rfl rfl rfl rfl ⟨rfl, rfl, rfl, rfl, rfl⟩ rfl rfl rfl rfl rfl fnm5 Tryz.func5 closed5 inst5 wrap5
    (fun os started H enc _ => lifted5 os started H enc)
theorem card5 : Rows.CanvasExactCardSaid :=
  ⟨Claim7.tied_new_at .later [.funcs] true (Claim7.new_of_sixth said5 (true, "2aeeda9e0b315eb022070bc88bc80a554dcd329f773ad53586088327a2b29430") false rfl ⟨rfl, rfl⟩ mi1 rfl
    (fun f fn hf hfn => by
      obtain rfl : f = 5 := Option.some.inj (hf.symm.trans fnm5)
      obtain rfl : fn = Tryz.f5 := Option.some.inj (hfn.symm.trans Tryz.func5)
      exact ⟨looks1.symm, wants_of wants5⟩)) wbt5, (fun _ h => by cases h), canvasExact_row_tie, (fun h => by cases h), goes_of fnm5 goes5⟩
end Go.Gx
namespace Go.Proofs.YtokdmiiejfmomaaGreatDoor
/-- THE CARD OF CanvasExact. -/
theorem canvasExact_card : Rows.CanvasExactCardSaid := Go.Gx.card5
#print axioms canvasExact_card
end Go.Proofs.YtokdmiiejfmomaaGreatDoor
end
