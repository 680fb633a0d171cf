/-
  The law CanvasReal (however high the eye really is, if the marks are right: it is a state, nothing clashes, and a line meets the canvas in a row that is told, as is told, or misses it, as is told): its tied card holds, for every input, without a condition.
-/
import Derived.Test.YtokdmiiejfmomaaGreatDoorW6
import Derived.SevenTiedAt
section
set_option linter.unusedSimpArgs false
set_option linter.unusedVariables false
namespace Go.Gx
open Go Go.Conc Go.Proofs Go.ChangeShapes Go.RowKit YtokdmiiejfmomaaGreatDoor
set_option maxRecDepth 100000
theorem Shr.ro {W : World} {Hs : Facts} (h : Shr W Hs) : ∀ f ∈ ([.seg 0 0 chkC] ++ Hs : Facts), f.isOwn = false := by
  intro f hf
  rcases List.mem_append.1 hf with hf | hf
  · rw [List.mem_singleton] at hf; subst hf; rfl
  · exact (h f hf).1
section
variable {H : Type} {enc : TypeId × Value → H} {W : World} {sp : Nat → Bool} {held : Bool}

end
end Go.Gx
end

section
set_option linter.unusedSimpArgs false
set_option linter.unusedVariables false
namespace Go.Gx
open Go Go.Conc Go.Proofs

instance : BoI Tryz.prog 4 := ⟨by kernel_rfl⟩
theorem low_slope {n d : Int} (h1 : -20 ≤ n ∧ n ≤ 20) (h2 : 1 ≤ d ∧ d ≤ 20) : slopeBar (low n d).1 (low n d).2 = 0 := by
  have key : ∀ a ∈ (List.range 41), ∀ b ∈ (List.range 20), slopeBar (low ((a : Int) - 20) ((b : Int) + 1)).1 (low ((a : Int) - 20) ((b : Int) + 1)).2 = 0 := by decide +kernel
  have := key (n + 20).toNat (by rw [List.mem_range]; omega) (d - 1).toNat (by rw [List.mem_range]; omega)
  rwa [show (((n + 20).toNat : Nat) : Int) - 20 = n by omega, show (((d - 1).toNat : Nat) : Int) + 1 = d by omega] at this
def sqD (B : Bk) (eye : Int) (s : R2) : Int × R2 := ((meetM B.prof eye s).map fun x => squareM B x.2).getD (0, (0, 0))
theorem sqV_eq (B : Bk) (eye : Int) (s : R2) : sqV B eye s = .tuple #[.int .i64 (sqD B eye s).1, rV (sqD B eye s).2, .bool (meetM B.prof eye s).isSome, .int .i64 0] := by
  unfold sqD
  cases hm : meetM B.prof eye s with
  | none => rw [sqV_none hm]; rfl
  | some x => rw [sqV_some hm]; rfl
theorem row_sqD {B : Bk} {eye row : Int} {s : R2} (hr : EyeOk row) : (rowM B eye s = row) ↔ ((meetM B.prof eye s).isSome = true ∧ (sqD B eye s).1 = row) := by
  unfold sqD
  unfold EyeOk at hr
  cases hm : meetM B.prof eye s with
  | none => rw [rowM_none hm]; simp; omega
  | some x => rw [rowM_some hm]; simp
end Go.Gx
end

section
set_option linter.unusedSimpArgs false
set_option linter.unusedVariables false
namespace Go.Gx
open Go Go.Conc Go.Proofs
variable {main : Bool}

/-! ### the reference's piece and point that is met, and that they are the program's -/
def pdR (p q s : R2) : Int := s.2 * (q.2 - p.2) - s.1 * (q.1 - p.1)
def pnR (p : R2) (eye : Int) (s : R2) : Int := eye * s.2 + s.1 * p.1 - s.2 * p.2
def spotR (p q : R2) (n d : Int) : Spot := (low (p.1 * d + (q.1 - p.1) * n) d, low (p.2 * d + (q.2 - p.2) * n) d)
def pieceR (p q : R2) (eye : Int) (s : R2) : Option Spot :=
  if pdR p q s = 0 ∧ pnR p eye s = 0 then some (if p.1 ≤ q.1 then (low p.1 1, low p.2 1) else (low q.1 1, low q.2 1))
  else if pdR p q s < 0 then (if -pnR p eye s < 0 ∨ -pdR p q s < -pnR p eye s then none else some (spotR p q (-pnR p eye s) (-pdR p q s)))
  else if pdR p q s = 0 ∨ pnR p eye s < 0 ∨ pdR p q s < pnR p eye s then none else some (spotR p q (pnR p eye s) (pdR p q s))
def stepR (o x : Option Spot) : Option Spot :=
  match x, o with
  | none, _ => o
  | some x, none => some x
  | some x, some y => if lessW x.1 y.1 then some x else some y
def accR (ps : List R2) (eye : Int) (s : R2) (j : Nat) : Option Spot := ((ps.zip ps.tail).take j).foldl (fun o x => stepR o (pieceR x.1 x.2 eye s)) none
def meetR (ps : List R2) (eye : Int) (s : R2) : Option Spot := (ps.zip ps.tail).foldl (fun o x => stepR o (pieceR x.1 x.2 eye s)) none
theorem low_one (n : Int) : low n 1 = (n, 1) := by
  have := low_mul (e := n) (d := 1) (by decide)
  rwa [Int.mul_one] at this
theorem low_neg {n d : Int} (hd : d ≠ 0) : low (-n) (-d) = low n d := by
  unfold low lowN lowD
  rw [Int.neg_gcd, Int.gcd_neg]
  by_cases h : d < 0
  · rw [if_pos h, if_pos h, if_neg (by omega), if_neg (by omega)]
  · rw [if_neg h, if_neg h, if_pos (by omega), if_pos (by omega), Int.neg_neg, Int.neg_neg]
theorem pn_off (p : R2) (eye : Int) (s : R2) : pnR p eye s = -offL p eye s := by
  unfold pnR offL
  rw [Int.sub_mul, Int.mul_comm s.2 p.2]
  omega
theorem pd_off (p q : R2) (eye : Int) (s : R2) : pdR p q s = offL q eye s - offL p eye s := by
  unfold pdR offL
  rw [Int.sub_mul, Int.sub_mul, Int.mul_sub, Int.mul_sub, Int.mul_comm s.2 p.2, Int.mul_comm s.2 q.2]
  omega
theorem lessW_pt {p : R2} {y : Spot} (hp : PtOk p) (hy : SpotOk y) : lessW (p.1, 1) y.1 = decide (p.1 * y.1.2 < y.1.1) := by
  obtain ⟨f1, f2, _, _⟩ := hy
  unfold PtOk at hp
  have a1 := mul_bd (a := p.1) (b := y.1.2) (A := 60) (B := 3000000) (by omega) (by omega)
  unfold lessW
  dsimp only
  rw [Int.mul_one, wr_in (by omega), wr_in (by omega)]
theorem lessW_pts {p q : R2} (hp : PtOk p) (hq : PtOk q) : lessW (p.1, 1) (q.1, 1) = decide (p.1 < q.1) := by
  unfold PtOk at hp hq
  unfold lessW
  dsimp only
  rw [Int.mul_one, Int.mul_one, wr_in (by omega), wr_in (by omega)]
theorem foldl_cross {p q : R2} {eye : Int} {s : R2} (hp : PtOk p) (hq : PtOk q) (he : EyeOk eye) (hs : SlOk s) (hpq : p.2 < q.2) {o : Option Spot} (ho : ∀ y, o = some y → SpotOk y) :
    (crossM p q eye s).foldl (fun o x => stepR o (some x)) o = stepR o (pieceR p q eye s) := by
  unfold crossM pieceR
  rw [if_neg (by rintro rfl; omega), pd_off p q eye s, pn_off]
  by_cases h0 : offL p eye s = 0 ∧ offL q eye s = 0
  · rw [if_pos h0, if_pos (by omega), low_one, low_one, low_one, low_one]
    simp only [List.foldl_cons, List.foldl_nil]
    cases o with
    | none =>
      simp only [stepR, lessW_pts hq hp]
      by_cases h : p.1 ≤ q.1
      · rw [if_pos h]
        simp [Int.not_lt.2 h]
      · rw [if_neg h]
        simp [Int.not_le.1 h]
    | some y =>
      have hy := ho y rfl
      simp only [stepR, lessW_pt hp hy]
      have y2 : 0 < y.1.2 := by have := hy.f2; omega
      by_cases h1 : p.1 * y.1.2 < y.1.1
      · simp only [h1, decide_true, if_true, lessW_pts hq hp]
        by_cases h : p.1 ≤ q.1
        · rw [if_pos h]
          simp [Int.not_lt.2 h, lessW_pt hp hy, h1]
        · rw [if_neg h]
          have h2 : q.1 * y.1.2 < y.1.1 := Int.lt_trans (Int.mul_lt_mul_of_pos_right (Int.not_le.1 h) y2) h1
          simp [Int.not_le.1 h, lessW_pt hq hy, h2]
      · simp only [h1, decide_false, lessW_pt hq hy]
        by_cases h : p.1 ≤ q.1
        · rw [if_pos h]
          have h2 : ¬ q.1 * y.1.2 < y.1.1 := by
            have := Int.mul_le_mul_of_nonneg_right h (Int.le_of_lt y2)
            omega
          simp [h2, lessW_pt hp hy, lessW_pt hq hy, h1]
        · rw [if_neg h]
          simp [lessW_pt hq hy]
  · have h0' : ¬ (offL q eye s - offL p eye s = 0 ∧ -offL p eye s = 0) := by omega
    rw [if_neg h0, if_neg h0']
    generalize offL p eye s = a at *
    generalize offL q eye s = b at *
    by_cases hd : b - a < 0
    · rw [if_pos hd]
      by_cases hc : a ≤ 0 ∧ 0 ≤ b ∨ 0 ≤ a ∧ b ≤ 0
      · have g : ¬ (- -a < 0 ∨ -(b - a) < - -a) := by omega
        rw [if_pos hc, if_neg g]
        unfold spotR
        rw [show - -a = a by omega, show -(b - a) = a - b by omega]
        rfl
      · have g : - -a < 0 ∨ -(b - a) < - -a := by omega
        rw [if_neg hc, if_pos g]
        rfl
    · rw [if_neg hd]
      by_cases hc : a ≤ 0 ∧ 0 ≤ b ∨ 0 ≤ a ∧ b ≤ 0
      · have g : ¬ (b - a = 0 ∨ -a < 0 ∨ b - a < -a) := by omega
        rw [if_pos hc, if_neg g]
        unfold spotR
        have e1 : a - b = -(b - a) := by omega
        have e2 : ∀ x y : Int, x * (a - b) + y * a = -(x * (b - a) + y * -a) := by
          intro x y
          rw [e1, Int.mul_neg, Int.mul_neg]
          omega
        rw [e2, e2, e1, low_neg (by omega), low_neg (by omega)]
        rfl
      · have g : b - a = 0 ∨ -a < 0 ∨ b - a < -a := by omega
        rw [if_neg hc, if_pos g]
        rfl
theorem spotR_ok {p q : R2} {eye : Int} {s : R2} (hp : PtOk p) (hq : PtOk q) (he : EyeOk eye) (hs : SlOk s) (hpq : p.2 < q.2) : ∀ x, pieceR p q eye s = some x → SpotOk x := by
  intro x hx
  have h := foldl_cross hp hq he hs hpq (o := none) (by simp)
  rw [hx] at h
  have key : ∀ (l : List Spot) (o : Option Spot), (∀ y ∈ l, SpotOk y) → (∀ y, o = some y → SpotOk y) → ∀ y, l.foldl (fun o x => stepR o (some x)) o = some y → SpotOk y := by
    intro l
    induction l with
    | nil => intro o _ ho; exact ho
    | cons a l ih =>
      intro o hl ho
      refine ih _ (fun y hy => hl y (List.mem_cons_of_mem _ hy)) ?_
      intro y hy
      cases o with
      | none => cases hy; exact hl _ (List.mem_cons_self ..)
      | some z =>
        simp only [stepR] at hy
        split at hy
        · cases hy; exact hl _ (List.mem_cons_self ..)
        · cases hy; exact ho _ rfl
  exact key _ none (crossM_ok hp hq he hs) (by simp) x h
theorem stepR_ok {o x : Option Spot} (ho : ∀ y, o = some y → SpotOk y) (hx : ∀ y, x = some y → SpotOk y) : ∀ y, stepR o x = some y → SpotOk y := by
  intro y hy
  cases x with
  | none => exact ho y hy
  | some x =>
    cases o with
    | none => exact hx y hy
    | some z =>
      simp only [stepR] at hy
      split at hy
      · exact hx y hy
      · exact ho y hy
theorem best_fold {l : List Spot} : ∀ (one : Spot), l.foldl (fun o x => stepR o (some x)) (some one) = some (bestM (fun a b => lessW a.1 b.1) one l) := by
  induction l with
  | nil => intro one; rfl
  | cons x l ih =>
    intro one
    rw [List.foldl_cons]
    unfold bestM
    rw [← ih]
    congr 1
    simp only [stepR]
    split <;> rfl
theorem pairs_ok {ps : List R2} (hp : ∀ p ∈ ps, PtOk p) (hpw : ps.Pairwise (fun p q => p.2 < q.2)) : ∀ x ∈ ps.zip ps.tail, PtOk x.1 ∧ PtOk x.2 ∧ x.1.2 < x.2.2 := by
  rintro ⟨p, q⟩ hx
  refine ⟨hp _ (List.of_mem_zip hx).1, hp _ (List.mem_of_mem_tail (List.of_mem_zip hx).2), ?_⟩
  obtain ⟨i, hi, e⟩ := List.getElem_of_mem hx
  simp only [List.getElem_zip, List.getElem_tail, Prod.mk.injEq] at e
  obtain ⟨rfl, rfl⟩ := e
  simp at hi
  exact List.pairwise_iff_getElem.1 hpw i (i + 1) (by omega) (by omega) (by omega)
/-- The reference meets the canvas where the program does. -/
theorem meetR_eq {ps : List R2} {eye : Int} {s : R2} (hp : ∀ p ∈ ps, PtOk p) (hpw : ps.Pairwise (fun p q => p.2 < q.2)) (he : EyeOk eye) (hs : SlOk s) : meetR ps eye s = meetM ps eye s := by
  have hall := pairs_ok hp hpw
  unfold meetR meetM piecesM
  generalize ps.zip ps.tail = l at hall
  have key : ∀ (l : List (R2 × R2)) (o : Option Spot), (∀ x ∈ l, PtOk x.1 ∧ PtOk x.2 ∧ x.1.2 < x.2.2) → (∀ y, o = some y → SpotOk y) →
      l.foldl (fun o x => stepR o (pieceR x.1 x.2 eye s)) o = (l.flatMap fun x => crossM x.1 x.2 eye s).foldl (fun o x => stepR o (some x)) o := by
    intro l
    induction l with
    | nil => intros; rfl
    | cons x l ih =>
      intro o hl ho
      obtain ⟨h1, h2, h3⟩ := hl x (List.mem_cons_self ..)
      rw [List.foldl_cons, List.flatMap_cons, List.foldl_append, foldl_cross h1 h2 he hs h3 ho]
      exact ih _ (fun y hy => hl y (List.mem_cons_of_mem _ hy)) (stepR_ok ho (spotR_ok h1 h2 he hs h3))
  rw [key l none hall (by simp)]
  cases h : (l.flatMap fun x => crossM x.1 x.2 eye s) with
  | nil => rfl
  | cons x r => exact best_fold x
theorem meetR_bk {B : Bk} {eye : Int} {s : R2} (hz : bookBar B = 0) (he : EyeOk eye) (hs : SlOk s) : meetR B.prof eye s = meetM B.prof eye s := meetR_eq (bounds_of_bar hz).2.2.1 (prof_pw hz) he hs
theorem accR_ok {B : Bk} {eye : Int} {s : R2} (hz : bookBar B = 0) (he : EyeOk eye) (hs : SlOk s) (j : Nat) : ∀ y, accR B.prof eye s j = some y → SpotOk y := by
  have hall := pairs_ok (bounds_of_bar hz).2.2.1 (prof_pw hz)
  unfold accR
  have key : ∀ (l : List (R2 × R2)) (o : Option Spot), (∀ x ∈ l, PtOk x.1 ∧ PtOk x.2 ∧ x.1.2 < x.2.2) → (∀ y, o = some y → SpotOk y) →
      ∀ y, l.foldl (fun o x => stepR o (pieceR x.1 x.2 eye s)) o = some y → SpotOk y := by
    intro l
    induction l with
    | nil => intro o _ ho; exact ho
    | cons x l ih =>
      intro o hl ho
      obtain ⟨h1, h2, h3⟩ := hl x (List.mem_cons_self ..)
      exact ih _ (fun y hy => hl y (List.mem_cons_of_mem _ hy)) (stepR_ok ho (spotR_ok h1 h2 he hs h3))
  exact key _ none (fun x hx => hall x (List.mem_of_mem_take hx)) (by simp)
theorem accR_succ {ps : List R2} {eye : Int} {s : R2} {j : Nat} (h : j + 1 < ps.length) : accR ps eye s (j + 1) = stepR (accR ps eye s j) (pieceR ps[j] ps[j + 1] eye s) := by
  unfold accR
  rw [List.take_add_one, List.foldl_append]
  have : (ps.zip ps.tail)[j]? = some (ps[j], ps[j + 1]) := by
    rw [List.getElem?_eq_getElem (by simp; omega), List.getElem_zip, List.getElem_tail]
  rw [this]
  rfl
theorem accR_all {ps : List R2} {eye : Int} {s : R2} {j : Nat} (h : ps.length ≤ j + 1) : accR ps eye s j = meetR ps eye s := by
  unfold accR meetR
  rw [List.take_of_length_le (by simp; omega)]
end Go.Gx
end

section
set_option linter.unusedSimpArgs false
set_option linter.unusedVariables false
namespace Go.Gx
open Go Go.Conc Go.Proofs
variable {main : Bool}

set_option maxRecDepth 100000 in
set_option maxHeartbeats 4000000 in
/-- onPiece (ref02) -/
theorem s155 (L : Lg Tryz.prog main) (H : Facts) {p q : R2} {eye : Int} {s : R2} (hp : PtOk p) (hq : PtOk q) (he : EyeOk eye) (hs : SlOk s) :
    Pure L 155 #[rV p, rV q, .int .i64 eye, rV s] H (.tuple #[rV ((pieceR p q eye s).getD ((0, 0), (0, 0))).1, rV ((pieceR p q eye s).getD ((0, 0), (0, 0))).2, .bool (pieceR p q eye s).isSome]) := by
  refine Spec.enter Tryz.func155 rfl (by simp [Tryz.f155]) fun c cs hc => ?_
  unfold PtOk at hp hq
  unfold EyeOk at he
  unfold SlOk at hs
  have b1 := mul_bd (a := s.2) (b := q.2 - p.2) (A := 10000) (B := 90) (by omega) (by omega)
  have b2 := mul_bd (a := s.1) (b := q.1 - p.1) (A := 10000) (B := 60) (by omega) (by omega)
  have b3 := mul_bd (a := eye) (b := s.2) (A := 90) (B := 10000) (by omega) (by omega)
  have b4 := mul_bd (a := s.1) (b := p.1) (A := 10000) (B := 60) (by omega) (by omega)
  have b5 := mul_bd (a := s.2) (b := p.2) (A := 10000) (B := 90) (by omega) (by omega)
  have hd : (pdR p q s).natAbs ≤ 1500000 := by unfold pdR; omega
  have hn : (pnR p eye s).natAbs ≤ 2400000 := by unfold pnR; omega
  have e1 : s.2 * (q.2 - p.2) - s.1 * (q.1 - p.1) = pdR p q s := rfl
  have e2 : eye * s.2 + s.1 * p.1 - s.2 * p.2 = pnR p eye s := rfl
  have m1 : Mid 1 := by omega
  refine At.seq (At.region ?_); refine At.bx rfl rfl rfl rfl rfl rfl rfl fun r4 => ?_; refine At.bx rfl rfl rfl rfl rfl rfl rfl fun r5 => ?_; refine At.bx rfl rfl rfl rfl rfl rfl rfl fun r7 => ?_; refine At.al rfl rfl rfl rfl rfl fun r8 => ?_; refine At.al rfl rfl rfl rfl rfl fun r9 => ?_; refine At.v rfl rfl rfl rfl rfl trivial ?_; refine At.regionEnd (At.seq ?_); refine At.drawJ hmix [] rfl ?_; refine Pool.fa 0 0 rfl rfl rfl rfl rfl rfl rfl rfl rfl ?_
  refine Pool.ld 3 1 rfl rfl rfl rfl rfl rfl rfl rfl rfl rfl rfl ?_; refine Pool.fa 0 2 rfl rfl rfl rfl rfl rfl rfl rfl rfl ?_; refine Pool.ld 4 3 rfl rfl rfl rfl rfl rfl rfl rfl rfl rfl rfl ?_; refine Pool.v 4 rfl rfl rfl rfl rfl rfl rfl (by omega) ?_; refine Pool.fa 1 5 rfl rfl rfl rfl rfl rfl rfl rfl rfl ?_; refine Pool.ld 3 6 rfl rfl rfl rfl rfl rfl rfl rfl rfl rfl rfl ?_; refine Pool.fa 1 7 rfl rfl rfl rfl rfl rfl rfl rfl rfl ?_; refine Pool.ld 4 8 rfl rfl rfl rfl rfl rfl rfl rfl rfl rfl rfl ?_
  refine Pool.v 9 rfl rfl rfl rfl rfl rfl rfl (by omega) ?_; refine Pool.v 10 rfl rfl rfl rfl rfl rfl rfl trivial ?_; refine Pool.v 11 rfl rfl rfl rfl rfl rfl rfl trivial ?_; refine pool_done rfl rfl ?_; refine At.regionEnd (At.seq (At.region ?_)); refine At.fa 1 rfl rfl rfl rfl rfl rfl rfl ?_; refine At.ld 2 rfl rfl rfl rfl rfl rfl rfl rfl rfl ?_; refine At.v rfl rfl rfl rfl rfl trivial ?_; refine At.v rfl rfl rfl rfl rfl (by omega) ?_; refine At.fa 0 rfl rfl rfl rfl rfl rfl rfl ?_
  refine At.ld 2 rfl rfl rfl rfl rfl rfl rfl rfl rfl ?_; refine At.v rfl rfl rfl rfl rfl trivial ?_; (iterate 2 refine At.v rfl rfl rfl rfl rfl (by omega) ?_); refine At.v rfl rfl rfl rfl rfl trivial ?_; refine At.regionEnd (At.seq (At.region ?_)); refine At.v rfl rfl rfl rfl rfl trivial ?_; refine At.fa 1 rfl rfl rfl rfl rfl rfl rfl ?_; refine At.ld 2 rfl rfl rfl rfl rfl rfl rfl rfl rfl ?_; refine At.v rfl rfl rfl rfl rfl (by omega) ?_; refine At.fa 0 rfl rfl rfl rfl rfl rfl rfl ?_
  refine At.ld 2 rfl rfl rfl rfl rfl rfl rfl rfl rfl ?_; refine At.fa 0 rfl rfl rfl rfl rfl rfl rfl ?_; refine At.ld 4 rfl rfl rfl rfl rfl rfl rfl rfl rfl ?_; (iterate 2 refine At.v rfl rfl rfl rfl rfl (by omega) ?_); refine At.fa 1 rfl rfl rfl rfl rfl rfl rfl ?_; refine At.ld 2 rfl rfl rfl rfl rfl rfl rfl rfl rfl ?_; refine At.fa 1 rfl rfl rfl rfl rfl rfl rfl ?_; refine At.ld 4 rfl rfl rfl rfl rfl rfl rfl rfl rfl ?_; (iterate 2 refine At.v rfl rfl rfl rfl rfl (by omega) ?_)
  refine At.v rfl rfl rfl rfl rfl trivial ?_; refine At.regionEnd (At.seq (At.seq (At.region ?_))); refine At.v rfl rfl rfl rfl rfl trivial ?_; refine At.cp rfl rfl rfl rfl rfl fun b51 h51 => ?_; refine At.v rfl rfl rfl rfl rfl trivial ?_
  rw [e1, e2]
  rw [e1] at h51
  unfold pieceR at hc
  clear e1 e2
  generalize pdR p q s = d at *
  generalize pnR p eye s = n at *
  clear b1 b2 b3 b4 b5
  have c1 := mul_bd (a := p.1) (b := d) (A := 60) (B := 1500000) (by omega) hd
  have c2 := mul_bd (a := p.2) (b := d) (A := 90) (B := 1500000) (by omega) hd
  have c3 := mul_bd (a := q.1 - p.1) (b := n) (A := 60) (B := 2400000) (by omega) hn
  have c4 := mul_bd (a := q.2 - p.2) (b := n) (A := 90) (B := 2400000) (by omega) hn
  cases b51
  · have g0 : ¬ (d = 0 ∧ n = 0) := by simp at h51; omega
    simp only [if_neg g0] at hc
    (iterate 2 refine At.un rfl rfl rfl rfl ?_); refine At.v rfl rfl rfl rfl rfl trivial ?_; refine At.regionEnd ?_; refine At.cond rfl ?_; refine At.skip (At.seq (At.seq (At.region ?_))); refine At.v rfl rfl rfl rfl rfl trivial ?_; refine At.cp rfl rfl rfl rfl rfl fun b74 h74 => ?_; refine At.regionEnd ?_
    cases b74
    · have g1 : ¬ d < 0 := by simpa using h74
      simp only [if_neg g1] at hc
      refine At.cond rfl ?_; refine At.skip (At.seq (At.seq (At.region ?_))); refine At.v rfl rfl rfl rfl rfl trivial ?_; refine At.cp rfl rfl rfl rfl rfl fun b80 h80 => ?_; refine At.v rfl rfl rfl rfl rfl trivial ?_
      cases b80
      · have d1 : d ≠ 0 := by simpa using h80
        refine At.v rfl rfl rfl rfl rfl trivial ?_; refine At.cp rfl rfl rfl rfl rfl fun b83 h83 => ?_; (iterate 2 refine At.v rfl rfl rfl rfl rfl trivial ?_)
        cases b83
        · have n1 : ¬ n < 0 := by simpa using h83
          (iterate 2 refine At.v rfl rfl rfl rfl rfl trivial ?_); refine At.cp rfl rfl rfl rfl rfl fun b88 h88 => ?_; refine At.v rfl rfl rfl rfl rfl trivial ?_; refine At.regionEnd ?_
          cases b88
          · have g2 : ¬ (d = 0 ∨ n < 0 ∨ d < n) := by simp at h88; omega
            simp only [if_neg g2] at hc
            refine At.cond rfl ?_; refine At.skip (At.seq ?_); refine At.drawJ hmix [1, 0] rfl ?_; refine Pool.fa 0 0 rfl rfl rfl rfl rfl rfl rfl rfl rfl ?_; refine Pool.ld 2 1 rfl rfl rfl rfl rfl rfl rfl rfl rfl rfl rfl ?_; refine Pool.v 2 rfl rfl rfl rfl rfl rfl rfl trivial ?_; refine Pool.v 3 rfl rfl rfl rfl rfl rfl rfl (by omega) ?_; refine Pool.v 4 rfl rfl rfl rfl rfl rfl rfl trivial ?_; refine Pool.v 5 rfl rfl rfl rfl rfl rfl rfl trivial ?_; refine Pool.v 6 rfl rfl rfl rfl rfl rfl rfl (by omega) ?_
            refine Pool.v 7 rfl rfl rfl rfl rfl rfl rfl (by omega) ?_; refine Pool.v 8 rfl rfl rfl rfl rfl rfl rfl trivial ?_; refine Pool.cq 9 rfl rfl rfl rfl rfl rfl rfl rfl rfl (fun H hs => s46 L H bs bs bs) ?_; refine Pool.fa 1 10 rfl rfl rfl rfl rfl rfl rfl rfl rfl ?_; refine Pool.ld 2 11 rfl rfl rfl rfl rfl rfl rfl rfl rfl rfl rfl ?_; refine Pool.v 12 rfl rfl rfl rfl rfl rfl rfl trivial ?_; refine Pool.v 13 rfl rfl rfl rfl rfl rfl rfl (by omega) ?_
            refine Pool.v 14 rfl rfl rfl rfl rfl rfl rfl trivial ?_; refine Pool.v 15 rfl rfl rfl rfl rfl rfl rfl trivial ?_; refine Pool.v 16 rfl rfl rfl rfl rfl rfl rfl (by omega) ?_; refine Pool.v 17 rfl rfl rfl rfl rfl rfl rfl (by omega) ?_; refine Pool.v 18 rfl rfl rfl rfl rfl rfl rfl trivial ?_; refine Pool.cq 19 rfl rfl rfl rfl rfl rfl rfl rfl rfl (fun H hs => s46 L H bs bs bs) ?_; refine Pool.st 1 20 rfl rfl rfl rfl rfl rfl rfl rfl rfl rfl rfl rfl rfl rfl rfl rfl rfl rfl sb ?_
            refine Pool.st 0 21 rfl rfl rfl rfl rfl rfl rfl rfl rfl rfl rfl rfl rfl rfl rfl rfl rfl rfl sb ?_; refine Pool.v 22 rfl rfl rfl rfl rfl rfl rfl trivial ?_; refine pool_done rfl rfl ?_; refine At.regionEnd ?_
            exact At.ret Tryz.func155 (.inr ⟨_, rfl⟩) rfl (.aggJ 1 rfl rfl rfl (.aggJ 0 rfl rfl rfl (.tmp rfl .nil))) (wk (hc _ _ (⟨by rfl, rfl⟩)))
          · have g2 : (d = 0 ∨ n < 0 ∨ d < n) := by simp at h88; omega
            simp only [if_pos g2] at hc
            refine At.cond rfl ?_; refine At.seq (At.region ?_); (iterate 2 refine At.q rfl rfl rfl rfl (q_build rfl rfl rfl) ?_); refine At.st 1 rfl rfl rfl rfl rfl rfl rfl rfl rfl rfl rfl rfl ?_; refine At.st 0 rfl rfl rfl rfl rfl rfl rfl rfl rfl rfl rfl rfl ?_; refine At.v rfl rfl rfl rfl rfl trivial ?_; refine At.regionEnd ?_
            exact At.ret Tryz.func155 (.inr ⟨_, rfl⟩) rfl (.aggJ 1 rfl rfl rfl (.aggJ 0 rfl rfl rfl (.tmp rfl .nil))) (wk (hc _ _ (⟨by rfl, rfl⟩)))
        · have g2 : (d = 0 ∨ n < 0 ∨ d < n) := by simp at h83; omega
          simp only [if_pos g2] at hc
          (iterate 3 refine At.un rfl rfl rfl rfl ?_); refine At.v rfl rfl rfl rfl rfl trivial ?_; refine At.regionEnd ?_; refine At.cond rfl ?_; refine At.seq (At.region ?_); (iterate 2 refine At.q rfl rfl rfl rfl (q_build rfl rfl rfl) ?_); refine At.st 1 rfl rfl rfl rfl rfl rfl rfl rfl rfl rfl rfl rfl ?_; refine At.st 0 rfl rfl rfl rfl rfl rfl rfl rfl rfl rfl rfl rfl ?_; refine At.v rfl rfl rfl rfl rfl trivial ?_; refine At.regionEnd ?_
          exact At.ret Tryz.func155 (.inr ⟨_, rfl⟩) rfl (.aggJ 1 rfl rfl rfl (.aggJ 0 rfl rfl rfl (.tmp rfl .nil))) (wk (hc _ _ (⟨by rfl, rfl⟩)))
      · have d1 : d = 0 := by simpa using h80
        have g2 : (d = 0 ∨ n < 0 ∨ d < n) := .inl d1
        simp only [if_pos g2] at hc
        (iterate 2 refine At.un rfl rfl rfl rfl ?_); (iterate 2 refine At.v rfl rfl rfl rfl rfl trivial ?_); (iterate 3 refine At.un rfl rfl rfl rfl ?_); refine At.v rfl rfl rfl rfl rfl trivial ?_; refine At.regionEnd ?_; refine At.cond rfl ?_; refine At.seq (At.region ?_); (iterate 2 refine At.q rfl rfl rfl rfl (q_build rfl rfl rfl) ?_); refine At.st 1 rfl rfl rfl rfl rfl rfl rfl rfl rfl rfl rfl rfl ?_; refine At.st 0 rfl rfl rfl rfl rfl rfl rfl rfl rfl rfl rfl rfl ?_
        refine At.v rfl rfl rfl rfl rfl trivial ?_; refine At.regionEnd ?_
        exact At.ret Tryz.func155 (.inr ⟨_, rfl⟩) rfl (.aggJ 1 rfl rfl rfl (.aggJ 0 rfl rfl rfl (.tmp rfl .nil))) (wk (hc _ _ (⟨by rfl, rfl⟩)))
    · have g1 : d < 0 := by simpa using h74
      simp only [if_pos g1] at hc
      have c5 : (p.1 * -d).natAbs ≤ 60 * 1500000 := by rw [Int.mul_neg, Int.natAbs_neg]; exact c1
      have c6 : (p.2 * -d).natAbs ≤ 90 * 1500000 := by rw [Int.mul_neg, Int.natAbs_neg]; exact c2
      have c7 : ((q.1 - p.1) * -n).natAbs ≤ 60 * 2400000 := by rw [Int.mul_neg, Int.natAbs_neg]; exact c3
      have c8 : ((q.2 - p.2) * -n).natAbs ≤ 90 * 2400000 := by rw [Int.mul_neg, Int.natAbs_neg]; exact c4
      refine At.cond rfl ?_; refine At.region ?_; refine At.v rfl rfl rfl rfl rfl trivial ?_; refine At.v rfl rfl rfl rfl rfl (by omega) ?_; refine At.v rfl rfl rfl rfl rfl trivial ?_; refine At.v rfl rfl rfl rfl rfl (by omega) ?_; (iterate 2 refine At.v rfl rfl rfl rfl rfl trivial ?_); refine At.regionEnd (At.seq (At.seq (At.region ?_))); refine At.v rfl rfl rfl rfl rfl trivial ?_; refine At.cp rfl rfl rfl rfl rfl fun b80 h80 => ?_; refine At.v rfl rfl rfl rfl rfl trivial ?_
      cases b80
      · have d1 : -d ≠ 0 := by simpa using h80
        refine At.v rfl rfl rfl rfl rfl trivial ?_; refine At.cp rfl rfl rfl rfl rfl fun b83 h83 => ?_; (iterate 2 refine At.v rfl rfl rfl rfl rfl trivial ?_)
        cases b83
        · have n1 : ¬ -n < 0 := by simpa using h83
          (iterate 2 refine At.v rfl rfl rfl rfl rfl trivial ?_); refine At.cp rfl rfl rfl rfl rfl fun b88 h88 => ?_; refine At.v rfl rfl rfl rfl rfl trivial ?_; refine At.regionEnd ?_
          cases b88
          · have g2 : ¬ (-n < 0 ∨ -d < -n) := by simp at h88; omega
            simp only [if_neg g2] at hc
            refine At.cond rfl ?_; refine At.skip (At.seq ?_); refine At.drawJ hmix [1, 0] rfl ?_; refine Pool.fa 0 0 rfl rfl rfl rfl rfl rfl rfl rfl rfl ?_; refine Pool.ld 2 1 rfl rfl rfl rfl rfl rfl rfl rfl rfl rfl rfl ?_; refine Pool.v 2 rfl rfl rfl rfl rfl rfl rfl trivial ?_; refine Pool.v 3 rfl rfl rfl rfl rfl rfl rfl (by omega) ?_; refine Pool.v 4 rfl rfl rfl rfl rfl rfl rfl trivial ?_; refine Pool.v 5 rfl rfl rfl rfl rfl rfl rfl trivial ?_; refine Pool.v 6 rfl rfl rfl rfl rfl rfl rfl (by omega) ?_
            refine Pool.v 7 rfl rfl rfl rfl rfl rfl rfl (by omega) ?_; refine Pool.v 8 rfl rfl rfl rfl rfl rfl rfl trivial ?_; refine Pool.cq 9 rfl rfl rfl rfl rfl rfl rfl rfl rfl (fun H hs => s46 L H bs bs bs) ?_; refine Pool.fa 1 10 rfl rfl rfl rfl rfl rfl rfl rfl rfl ?_; refine Pool.ld 2 11 rfl rfl rfl rfl rfl rfl rfl rfl rfl rfl rfl ?_; refine Pool.v 12 rfl rfl rfl rfl rfl rfl rfl trivial ?_; refine Pool.v 13 rfl rfl rfl rfl rfl rfl rfl (by omega) ?_
            refine Pool.v 14 rfl rfl rfl rfl rfl rfl rfl trivial ?_; refine Pool.v 15 rfl rfl rfl rfl rfl rfl rfl trivial ?_; refine Pool.v 16 rfl rfl rfl rfl rfl rfl rfl (by omega) ?_; refine Pool.v 17 rfl rfl rfl rfl rfl rfl rfl (by omega) ?_; refine Pool.v 18 rfl rfl rfl rfl rfl rfl rfl trivial ?_; refine Pool.cq 19 rfl rfl rfl rfl rfl rfl rfl rfl rfl (fun H hs => s46 L H bs bs bs) ?_; refine Pool.st 1 20 rfl rfl rfl rfl rfl rfl rfl rfl rfl rfl rfl rfl rfl rfl rfl rfl rfl rfl sb ?_
            refine Pool.st 0 21 rfl rfl rfl rfl rfl rfl rfl rfl rfl rfl rfl rfl rfl rfl rfl rfl rfl rfl sb ?_; refine Pool.v 22 rfl rfl rfl rfl rfl rfl rfl trivial ?_; refine pool_done rfl rfl ?_; refine At.regionEnd ?_
            exact At.ret Tryz.func155 (.inr ⟨_, rfl⟩) rfl (.aggJ 1 rfl rfl rfl (.aggJ 0 rfl rfl rfl (.tmp rfl .nil))) (wk (hc _ _ (⟨by rfl, rfl⟩)))
          · have g2 : (-n < 0 ∨ -d < -n) := by simp at h88; omega
            simp only [if_pos g2] at hc
            refine At.cond rfl ?_; refine At.seq (At.region ?_); (iterate 2 refine At.q rfl rfl rfl rfl (q_build rfl rfl rfl) ?_); refine At.st 1 rfl rfl rfl rfl rfl rfl rfl rfl rfl rfl rfl rfl ?_; refine At.st 0 rfl rfl rfl rfl rfl rfl rfl rfl rfl rfl rfl rfl ?_; refine At.v rfl rfl rfl rfl rfl trivial ?_; refine At.regionEnd ?_
            exact At.ret Tryz.func155 (.inr ⟨_, rfl⟩) rfl (.aggJ 1 rfl rfl rfl (.aggJ 0 rfl rfl rfl (.tmp rfl .nil))) (wk (hc _ _ (⟨by rfl, rfl⟩)))
        · have g2 : (-n < 0 ∨ -d < -n) := by simp at h83; omega
          simp only [if_pos g2] at hc
          (iterate 3 refine At.un rfl rfl rfl rfl ?_); refine At.v rfl rfl rfl rfl rfl trivial ?_; refine At.regionEnd ?_; refine At.cond rfl ?_; refine At.seq (At.region ?_); (iterate 2 refine At.q rfl rfl rfl rfl (q_build rfl rfl rfl) ?_); refine At.st 1 rfl rfl rfl rfl rfl rfl rfl rfl rfl rfl rfl rfl ?_; refine At.st 0 rfl rfl rfl rfl rfl rfl rfl rfl rfl rfl rfl rfl ?_; refine At.v rfl rfl rfl rfl rfl trivial ?_; refine At.regionEnd ?_
          exact At.ret Tryz.func155 (.inr ⟨_, rfl⟩) rfl (.aggJ 1 rfl rfl rfl (.aggJ 0 rfl rfl rfl (.tmp rfl .nil))) (wk (hc _ _ (⟨by rfl, rfl⟩)))
      · have d1 : -d = 0 := by simpa using h80
        omega
  · have d1 : d = 0 := by simpa using h51
    refine At.v rfl rfl rfl rfl rfl trivial ?_; refine At.cp rfl rfl rfl rfl rfl fun b54 h54 => ?_; refine At.v rfl rfl rfl rfl rfl trivial ?_; refine At.regionEnd ?_
    cases b54
    · have n1 : n ≠ 0 := by simpa using h54
      have g0 : ¬ (d = 0 ∧ n = 0) := by omega
      have g1 : ¬ d < 0 := by omega
      have g2 : d = 0 ∨ n < 0 ∨ d < n := by omega
      simp only [if_neg g0, if_neg g1, if_pos g2] at hc
      refine At.cond rfl ?_; refine At.skip (At.seq (At.seq (At.region ?_))); refine At.v rfl rfl rfl rfl rfl trivial ?_; refine At.cp rfl rfl rfl rfl rfl fun b74 h74 => ?_; refine At.regionEnd ?_
      have e74 : b74 = false := by rw [← h74]; simp; omega
      subst e74
      refine At.cond rfl ?_; refine At.skip (At.seq (At.seq (At.region ?_))); refine At.v rfl rfl rfl rfl rfl trivial ?_; refine At.cp rfl rfl rfl rfl rfl fun b80 h80 => ?_; refine At.v rfl rfl rfl rfl rfl trivial ?_
      have e80 : b80 = true := by rw [← h80]; simp; omega
      subst e80
      (iterate 2 refine At.un rfl rfl rfl rfl ?_); (iterate 2 refine At.v rfl rfl rfl rfl rfl trivial ?_); (iterate 3 refine At.un rfl rfl rfl rfl ?_); refine At.v rfl rfl rfl rfl rfl trivial ?_; refine At.regionEnd ?_; refine At.cond rfl ?_; refine At.seq (At.region ?_); (iterate 2 refine At.q rfl rfl rfl rfl (q_build rfl rfl rfl) ?_); refine At.st 1 rfl rfl rfl rfl rfl rfl rfl rfl rfl rfl rfl rfl ?_; refine At.st 0 rfl rfl rfl rfl rfl rfl rfl rfl rfl rfl rfl rfl ?_
      refine At.v rfl rfl rfl rfl rfl trivial ?_; refine At.regionEnd ?_
      exact At.ret Tryz.func155 (.inr ⟨_, rfl⟩) rfl (.aggJ 1 rfl rfl rfl (.aggJ 0 rfl rfl rfl (.tmp rfl .nil))) (wk (hc _ _ (⟨by rfl, rfl⟩)))
    · have g0 : d = 0 ∧ n = 0 := ⟨d1, by simpa using h54⟩
      simp only [if_pos g0] at hc
      refine At.cond rfl ?_; refine At.seq (At.seq (At.region ?_)); refine At.fa 0 rfl rfl rfl rfl rfl rfl rfl ?_; refine At.ld 4 rfl rfl rfl rfl rfl rfl rfl rfl rfl ?_; refine At.fa 0 rfl rfl rfl rfl rfl rfl rfl ?_; refine At.ld 3 rfl rfl rfl rfl rfl rfl rfl rfl rfl ?_; refine At.cp rfl rfl rfl rfl rfl fun b60 h60 => ?_; refine At.regionEnd ?_
      cases b60
      · have g1 : ¬ p.1 ≤ q.1 := by simpa using h60
        simp only [if_neg g1] at hc
        refine At.cond rfl ?_; refine At.skip (At.seq ?_); refine At.drawJ hmix [1, 0] rfl ?_; refine Pool.fa 0 0 rfl rfl rfl rfl rfl rfl rfl rfl rfl ?_; refine Pool.ld 1 1 rfl rfl rfl rfl rfl rfl rfl rfl rfl rfl rfl ?_; refine Pool.cq 2 rfl rfl rfl rfl rfl rfl rfl rfl rfl (fun H hs => s46 L H bs bs bs) ?_; refine Pool.fa 1 3 rfl rfl rfl rfl rfl rfl rfl rfl rfl ?_; refine Pool.ld 1 4 rfl rfl rfl rfl rfl rfl rfl rfl rfl rfl rfl ?_
        refine Pool.cq 5 rfl rfl rfl rfl rfl rfl rfl rfl rfl (fun H hs => s46 L H bs bs bs) ?_; refine Pool.st 1 6 rfl rfl rfl rfl rfl rfl rfl rfl rfl rfl rfl rfl rfl rfl rfl rfl rfl rfl sb ?_; refine Pool.st 0 7 rfl rfl rfl rfl rfl rfl rfl rfl rfl rfl rfl rfl rfl rfl rfl rfl rfl rfl sb ?_; refine Pool.v 8 rfl rfl rfl rfl rfl rfl rfl trivial ?_; refine pool_done rfl rfl ?_; refine At.regionEnd ?_
        exact At.ret Tryz.func155 (.inr ⟨_, rfl⟩) rfl (.aggJ 1 rfl rfl rfl (.aggJ 0 rfl rfl rfl (.tmp rfl .nil))) (wk (hc _ _ (⟨by rfl, rfl⟩)))
      · have g1 : p.1 ≤ q.1 := by simpa using h60
        simp only [if_pos g1] at hc
        refine At.cond rfl ?_; refine At.seq ?_; refine At.drawJ hmix [1, 0] rfl ?_; refine Pool.fa 0 0 rfl rfl rfl rfl rfl rfl rfl rfl rfl ?_; refine Pool.ld 2 1 rfl rfl rfl rfl rfl rfl rfl rfl rfl rfl rfl ?_; refine Pool.cq 2 rfl rfl rfl rfl rfl rfl rfl rfl rfl (fun H hs => s46 L H bs bs bs) ?_; refine Pool.fa 1 3 rfl rfl rfl rfl rfl rfl rfl rfl rfl ?_; refine Pool.ld 2 4 rfl rfl rfl rfl rfl rfl rfl rfl rfl rfl rfl ?_
        refine Pool.cq 5 rfl rfl rfl rfl rfl rfl rfl rfl rfl (fun H hs => s46 L H bs bs bs) ?_; refine Pool.st 1 6 rfl rfl rfl rfl rfl rfl rfl rfl rfl rfl rfl rfl rfl rfl rfl rfl rfl rfl sb ?_; refine Pool.st 0 7 rfl rfl rfl rfl rfl rfl rfl rfl rfl rfl rfl rfl rfl rfl rfl rfl rfl rfl sb ?_; refine Pool.v 8 rfl rfl rfl rfl rfl rfl rfl trivial ?_; refine pool_done rfl rfl ?_; refine At.regionEnd ?_
        exact At.ret Tryz.func155 (.inr ⟨_, rfl⟩) rfl (.aggJ 1 rfl rfl rfl (.aggJ 0 rfl rfl rfl (.tmp rfl .nil))) (wk (hc _ _ (⟨by rfl, rfl⟩)))
end Go.Gx
end

section
set_option linter.unusedSimpArgs false
set_option linter.unusedVariables false
namespace Go.Gx
open Go Go.Conc Go.Proofs
variable {main : Bool}

set_option maxRecDepth 100000 in
set_option maxHeartbeats 4000000 in
/-- MeetOf (ref02) -/
theorem s95 (L : Lg Tryz.prog main) (H : Facts) {B : Bk} {A : BkA} {eye : Int} {s : R2} (hB : BkR H B A) (hz : bookBar B = 0) (he : EyeOk eye) (hs : SlOk s) :
    Pure L 95 #[bkV B A, .int .i64 eye, rV s] H (.tuple #[rV ((meetM B.prof eye s).getD ((0, 0), (0, 0))).1, rV ((meetM B.prof eye s).getD ((0, 0), (0, 0))).2, .bool (meetM B.prof eye s).isSome]) := by
  refine Spec.enter Tryz.func95 rfl (by simp [Tryz.f95]) fun c cs hc => ?_
  rw [← meetR_bk hz he hs] at hc
  have hok := accR_ok (s := s) hz he hs
  have hpt := (bounds_of_bar hz).2.2.1
  have hl5 := (bounds_of_bar hz).2.1
  have hl2 := (bounds_of_bar hz).1
  have hrp := hB.p
  obtain ⟨prof, size, lo, hi, marks⟩ := B
  obtain ⟨pa, pc, ma, mc⟩ := A
  simp only at hrp hpt hl5 hl2 hc hok
  refine At.seq (At.region ?_); refine At.bx rfl rfl rfl rfl rfl rfl rfl fun r3 => ?_; refine At.bx rfl rfl rfl rfl rfl rfl rfl fun r5 => ?_; refine At.al rfl rfl rfl rfl rfl fun r6 => ?_; refine At.al rfl rfl rfl rfl rfl fun r7 => ?_; refine At.v rfl rfl rfl rfl rfl trivial ?_; refine At.regionEnd (At.seq (At.region ?_)); refine At.al rfl rfl rfl rfl rfl fun r9 => ?_; refine At.al rfl rfl rfl rfl rfl fun r10 => ?_; refine At.regionEnd (At.seq (At.region ?_))
  refine At.v rfl rfl rfl rfl rfl trivial ?_; refine At.regionEnd (At.seq (At.seq (At.region ?_))); refine At.v rfl rfl rfl rfl rfl trivial ?_; refine At.regionEnd ?_; refine At.block ?_
  refine At.lpk (X := { j : Nat // j ≤ prof.length - 1 }) [1, 3, 5, 6, 7, 8, 9, 10] (fun x => [(12, .int .i64 (x.1 : Int)), (11, .bool (accR prof eye s x.1).isSome)]) (fun x => .own r10 (.cells (List.toArray (c2 ((accR prof eye s x.1).getD ((0, 0), (0, 0))).2)) 29 (0, 0)) :: .own r9 (.cells (List.toArray (c2 ((accR prof eye s x.1).getD ((0, 0), (0, 0))).1)) 29 (0, 0)) :: .own r7 (.cells #[.int .i64 0, .int .i64 0] 29 (0, 0)) :: .own r6 (.cells #[.int .i64 0, .int .i64 0] 29 (0, 0)) :: .own r5 (.cells (List.toArray (c2 s)) 29 (0, 0)) :: .own r3 (.cells (List.toArray (bkC ⟨prof, size, lo, hi, marks⟩ ⟨pa, pc, ma, mc⟩)) 27 (0, 0)) :: H) (fun x => prof.length - 1 - x.1) (⟨0, Nat.zero_le _⟩) rfl ?_ (by repeat (first | exact trivial | refine ⟨rfl, ?_⟩)) sb
  rintro ⟨j, hj⟩ again
  simp only at again ⊢
  refine At.seq (At.seq (At.region ?_)); refine At.v rfl rfl rfl rfl rfl trivial ?_; refine At.v rfl rfl rfl rfl rfl (by omega) ?_; refine At.fa 0 rfl rfl rfl rfl rfl rfl rfl ?_; refine At.ld 5 rfl rfl rfl rfl rfl rfl rfl rfl rfl ?_; refine At.ln rfl rfl rfl rfl rfl rfl rfl rfl ?_; refine At.cp rfl rfl rfl rfl rfl fun b21 h21 => ?_; refine At.regionEnd ?_
  cases b21
  · have e : j = prof.length - 1 := by simp at h21; omega
    subst e
    rw [accR_all (by omega)]
    refine At.cond rfl ?_; refine At.exit rfl ?_; refine At.seq ?_; refine At.drawJ hmix [3, 2] rfl ?_; refine Pool.ld 1 0 rfl rfl rfl rfl rfl rfl rfl rfl rfl rfl rfl ?_; refine Pool.ld 0 1 rfl rfl rfl rfl rfl rfl rfl rfl rfl rfl rfl ?_; refine Pool.v 2 rfl rfl rfl rfl rfl rfl rfl trivial ?_; refine Pool.st 3 3 rfl rfl rfl rfl rfl rfl rfl rfl rfl rfl rfl rfl rfl rfl rfl rfl rfl rfl sb ?_; refine Pool.st 2 4 rfl rfl rfl rfl rfl rfl rfl rfl rfl rfl rfl rfl rfl rfl rfl rfl rfl rfl sb ?_
    refine Pool.v 5 rfl rfl rfl rfl rfl rfl rfl trivial ?_; refine pool_done rfl rfl ?_; refine At.regionEnd ?_
    exact At.ret Tryz.func95 (.inr ⟨_, rfl⟩) rfl (.aggJ 3 rfl rfl rfl (.aggJ 2 rfl rfl rfl (.tmp rfl .nil))) (wk (hc _ _ (⟨by rfl, rfl⟩)))
  · have hlt : j + 1 < prof.length := by simp at h21; omega
    have hlt' : j < prof.length := by omega
    obtain ⟨b, off, rfl, hc0⟩ := hrp.el (List.getElem?_eq_getElem hlt')
    obtain ⟨b', off', e', hc1⟩ := hrp.el (List.getElem?_eq_getElem hlt)
    cases e'
    have p0 := hpt _ (List.getElem_mem hlt')
    have p1 := hpt _ (List.getElem_mem hlt)
    have hsc := accR_succ (eye := eye) (s := s) hlt
    refine At.cond rfl ?_; refine At.skip (At.seq ?_); refine At.block ?_; refine At.seq ?_; refine At.drawJ hmix [] rfl ?_; refine Pool.fa 0 0 rfl rfl rfl rfl rfl rfl rfl rfl rfl ?_; refine Pool.ld 5 1 rfl rfl rfl rfl rfl rfl rfl rfl rfl rfl rfl ?_; refine Pool.v 2 rfl rfl rfl rfl rfl rfl rfl trivial ?_; refine Pool.q 3 rfl rfl rfl rfl rfl (q_ia rfl rfl rfl (by assumption)) rfl ?_; refine Pool.ldc 4 rfl rfl rfl rfl rfl rfl rfl hc0.a rfl rfl rfl ?_
    refine Pool.fa 0 5 rfl rfl rfl rfl rfl rfl rfl rfl rfl ?_; refine Pool.ld 5 6 rfl rfl rfl rfl rfl rfl rfl rfl rfl rfl rfl ?_; refine Pool.v 7 rfl rfl rfl rfl rfl rfl rfl trivial ?_; refine Pool.v 8 rfl rfl rfl rfl rfl rfl rfl (by omega) ?_; refine Pool.q 9 rfl rfl rfl rfl rfl (q_ia rfl rfl rfl (by assumption)) rfl ?_; refine Pool.ldc 10 rfl rfl rfl rfl rfl rfl rfl hc1.a rfl rfl rfl ?_; refine Pool.v 11 rfl rfl rfl rfl rfl rfl rfl trivial ?_
    refine Pool.ld 4 12 rfl rfl rfl rfl rfl rfl rfl rfl rfl rfl rfl ?_; refine Pool.cq 13 rfl rfl rfl rfl rfl rfl rfl rfl rfl (fun H hs => s155 L H bs bs bs bs) ?_; refine Pool.v 14 rfl rfl rfl rfl rfl rfl rfl trivial ?_; refine Pool.v 15 rfl rfl rfl rfl rfl rfl rfl trivial ?_; refine Pool.v 16 rfl rfl rfl rfl rfl rfl rfl trivial ?_; refine Pool.v 17 rfl rfl rfl rfl rfl rfl rfl trivial ?_; refine Pool.fl 18 rfl rfl rfl rfl rfl rfl rfl rfl rfl rfl ?_
    refine Pool.al 19 rfl rfl rfl rfl rfl rfl rfl rfl rfl rfl rfl sb fun r14 => ?_; refine Pool.v 22 rfl rfl rfl rfl rfl rfl rfl trivial ?_; refine pool_take rfl rfl rfl fun rf18 => ?_; refine Pool.st 0 20 rfl rfl rfl rfl rfl rfl rfl rfl rfl rfl rfl rfl rfl rfl rfl rfl rfl rfl sb ?_; refine Pool.st 1 21 rfl rfl rfl rfl rfl rfl rfl rfl rfl rfl rfl rfl rfl rfl rfl rfl rfl rfl sb ?_; refine pool_done rfl rfl ?_; refine At.regionEnd (At.seq (At.region ?_))
    (iterate 2 refine At.v rfl rfl rfl rfl rfl trivial ?_)
    have hpo := spotR_ok p0 p1 he hs (Int.lt_of_not_ge fun h => by
      have := List.pairwise_iff_getElem.1 (prof_pw hz) j (j + 1) (by simpa using hlt') (by simpa using hlt) (by omega)
      simp only at this
      omega)
    have ag := again ⟨j + 1, by omega⟩ (by simp; omega)
    simp only [hsc] at ag
    cases hpc : pieceR prof[j] prof[j + 1] eye s with
    | none =>
      simp only [hpc, stepR] at ag
      (iterate 7 refine At.un rfl rfl rfl rfl ?_); refine At.v rfl rfl rfl rfl rfl trivial ?_; refine At.regionEnd ?_; refine At.cond rfl ?_; refine At.skip ?_; refine At.inBlock ?_; refine At.region ?_; refine At.v rfl rfl rfl rfl rfl trivial ?_; refine At.v rfl rfl rfl rfl rfl (by omega) ?_; refine At.v rfl rfl rfl rfl rfl trivial ?_; refine At.regionEnd ?_
      refine At.tA (ag)
    | some x =>
      cases hacc : accR prof eye s j with
      | none =>
        simp only [hpc, hacc, stepR, Option.isSome, Option.getD] at ag
        (iterate 3 refine At.v rfl rfl rfl rfl rfl trivial ?_); (iterate 3 refine At.un rfl rfl rfl rfl ?_); (iterate 2 refine At.v rfl rfl rfl rfl rfl trivial ?_); refine At.regionEnd ?_; refine At.cond rfl ?_; refine At.drawJ hmix [3, 2] rfl ?_; refine Pool.ld 0 0 rfl rfl rfl rfl rfl rfl rfl rfl rfl rfl rfl ?_; refine Pool.ld 1 1 rfl rfl rfl rfl rfl rfl rfl rfl rfl rfl rfl ?_; refine Pool.st 3 2 rfl rfl rfl rfl rfl rfl rfl rfl rfl rfl rfl rfl rfl rfl rfl rfl rfl rfl sb ?_
        refine Pool.st 2 3 rfl rfl rfl rfl rfl rfl rfl rfl rfl rfl rfl rfl rfl rfl rfl rfl rfl rfl sb ?_; refine Pool.v 4 rfl rfl rfl rfl rfl rfl rfl trivial ?_; refine pool_done rfl rfl ?_; refine At.regionEnd ?_; refine At.inBlock ?_; refine At.region ?_; refine At.v rfl rfl rfl rfl rfl trivial ?_; refine At.v rfl rfl rfl rfl rfl (by omega) ?_; refine At.v rfl rfl rfl rfl rfl trivial ?_; refine At.regionEnd ?_
        refine At.tA (ag)
      | some y =>
        simp only [hpc, hacc, stepR] at ag
        (iterate 3 refine At.v rfl rfl rfl rfl rfl trivial ?_); refine At.ld 0 rfl rfl rfl rfl rfl rfl rfl rfl rfl ?_; refine At.ld 3 rfl rfl rfl rfl rfl rfl rfl rfl rfl ?_; refine At.cqb rfl rfl rfl rfl rfl rfl rfl rfl (s103 L _) fun b49 h49 => ?_; (iterate 2 refine At.v rfl rfl rfl rfl rfl trivial ?_); refine At.regionEnd ?_
        cases b49
        · have e49 : lessW x.1 y.1 = false := h49
          simp only [e49, if_false, Option.isSome, Option.getD, Bool.false_eq_true] at ag
          refine At.cond rfl ?_; refine At.skip ?_; refine At.inBlock ?_; refine At.region ?_; refine At.v rfl rfl rfl rfl rfl trivial ?_; refine At.v rfl rfl rfl rfl rfl (by omega) ?_; refine At.v rfl rfl rfl rfl rfl trivial ?_; refine At.regionEnd ?_
          refine At.tA (ag)
        · have e49 : lessW x.1 y.1 = true := h49
          simp only [e49, if_true, Option.isSome, Option.getD] at ag
          refine At.cond rfl ?_; refine At.drawJ hmix [3, 2] rfl ?_; refine Pool.ld 0 0 rfl rfl rfl rfl rfl rfl rfl rfl rfl rfl rfl ?_; refine Pool.ld 1 1 rfl rfl rfl rfl rfl rfl rfl rfl rfl rfl rfl ?_; refine Pool.st 3 2 rfl rfl rfl rfl rfl rfl rfl rfl rfl rfl rfl rfl rfl rfl rfl rfl rfl rfl sb ?_; refine Pool.st 2 3 rfl rfl rfl rfl rfl rfl rfl rfl rfl rfl rfl rfl rfl rfl rfl rfl rfl rfl sb ?_; refine Pool.v 4 rfl rfl rfl rfl rfl rfl rfl trivial ?_; refine pool_done rfl rfl ?_; refine At.regionEnd ?_
          refine At.inBlock ?_; refine At.region ?_; refine At.v rfl rfl rfl rfl rfl trivial ?_; refine At.v rfl rfl rfl rfl rfl (by omega) ?_; refine At.v rfl rfl rfl rfl rfl trivial ?_; refine At.regionEnd ?_
          refine At.tA (ag)
end Go.Gx
end

section
set_option linter.unusedSimpArgs false
set_option linter.unusedVariables false
namespace Go.Gx
open Go Go.Conc Go.Proofs
variable {main : Bool}

/-- RowOf (ref02), a book's -/
theorem s97 (L : Lg Tryz.prog main) (H : Facts) {B : Bk} {A : BkA} {h : R2} (hB : BkR H B A) (hz : bookBar B = 0) (hh : HighOk h) : Pure L 97 #[bkV B A, rV h] H (.tuple #[.int .i64 (squareM B h).1, rV (squareM B h).2]) := by
  have hb := bounds_of_bar hz
  have h0 : 0 < B.prof.length := by omega
  obtain ⟨b, off, e, hc⟩ := hB.p.el (List.getElem?_eq_getElem h0)
  obtain ⟨pa, pc, ma, mc⟩ := A
  simp only at e
  subst e
  have hp := hb.2.2.1 _ (List.getElem_mem h0)
  obtain ⟨hn, hd1, hd2⟩ := hh
  have ef : footM B = B.prof[0].2 := by
    unfold footM
    rw [List.headD_eq_head?_getD, List.head?_eq_getElem?, List.getElem?_eq_getElem h0]
    rfl
  unfold PtOk at hp
  have m1 := mul_bd (a := B.size) (b := h.2) (A := 30) (B := 3000000) (by omega) (by omega)
  have m2 := mul_bd (a := B.prof[0].2) (b := h.2) (A := 90) (B := 3000000) (by omega) (by omega)
  have m3 : B.size * h.2 ≠ 0 := Int.mul_ne_zero (by omega) (by omega)
  have m4 : ((h.1 - B.prof[0].2 * h.2).tdiv (B.size * h.2)).natAbs ≤ 800000000 := by
    rw [Int.natAbs_tdiv]
    exact Nat.le_trans (Nat.div_le_self _ _) (by omega)
  have m5 := mul_bd (a := (h.1 - B.prof[0].2 * h.2).tdiv (B.size * h.2)) (b := B.size) (A := 800000000) (B := 30) m4 (by omega)
  have m6 : ((h.1 - B.prof[0].2 * h.2).tdiv (B.size * h.2) * B.size * h.2).natAbs ≤ 800000000 * 30 * 3000000 := mul_bd m5 (by omega)
  have := r97 L H (n := B.prof.length) (cap := pc) (m := B.marks.length) (mc := mc) (ma := ma) (size := B.size) (lo := B.lo) (hi := B.hi) (hn := h.1) (hd := h.2) (h0 := B.prof[0].2) h0 (cells_sub hc 1 1 rfl) (by omega) (by omega) (by omega) m3 (by omega) (by omega)
  unfold squareM
  rw [ef]
  exact this
set_option maxRecDepth 100000 in
set_option maxHeartbeats 4000000 in
/-- RowIn (ref02) -/
theorem s115 (L : Lg Tryz.prog main) (H : Facts) {B : Bk} {A : BkA} {eye : Int} {s : R2} (hB : BkR H B A) (hz : bookBar B = 0) (he : EyeOk eye) (hs : SlOk s) : Pure L 115 #[bkV B A, .int .i64 eye, rV s] H (.int .i64 (rowM B eye s)) := by
  refine Spec.enter Tryz.func115 rfl (by simp [Tryz.f115]) fun c cs hc => ?_
  have hp := profOk_of hz
  refine At.seq (At.region ?_); refine At.bx rfl rfl rfl rfl rfl rfl rfl fun r3 => ?_; refine At.bx rfl rfl rfl rfl rfl rfl rfl fun r5 => ?_; refine At.v rfl rfl rfl rfl rfl trivial ?_; refine At.regionEnd (At.seq (At.region ?_)); refine At.ld 1 rfl rfl rfl rfl rfl rfl rfl rfl rfl ?_; refine At.v rfl rfl rfl rfl rfl trivial ?_; refine At.ld 0 rfl rfl rfl rfl rfl rfl rfl rfl rfl ?_; refine At.cq rfl rfl rfl rfl rfl rfl rfl rfl (s95 L _ bs bs bs bs) ?_
  (iterate 4 refine At.v rfl rfl rfl rfl rfl trivial ?_); refine At.al rfl rfl rfl rfl rfl fun r7 => ?_; refine At.al rfl rfl rfl rfl rfl fun r8 => ?_; refine At.st 1 rfl rfl rfl rfl rfl rfl rfl rfl rfl rfl rfl rfl ?_; refine At.st 0 rfl rfl rfl rfl rfl rfl rfl rfl rfl rfl rfl rfl ?_; refine At.v rfl rfl rfl rfl rfl trivial ?_; refine At.regionEnd (At.seq (At.seq (At.region ?_))); (iterate 2 refine At.v rfl rfl rfl rfl rfl trivial ?_); refine At.regionEnd ?_
  cases hm : meetM B.prof eye s with
  | none =>
    rw [rowM_none hm] at hc
    refine At.cond rfl ?_; refine At.seq (At.region ?_); refine At.v rfl rfl rfl rfl rfl trivial ?_; refine At.regionEnd ?_
    exact At.ret Tryz.func115 (.inr ⟨_, rfl⟩) rfl (.tmp rfl .nil) (wk (hc _ _ (⟨by rfl, rfl⟩)))
  | some x =>
    have hx := highOk_of (meetM_ok hp.2 he hs hm)
    rw [rowM_some hm] at hc
    refine At.cond rfl ?_; refine At.skip (At.seq (At.region ?_)); refine At.ld 3 rfl rfl rfl rfl rfl rfl rfl rfl rfl ?_; refine At.ld 0 rfl rfl rfl rfl rfl rfl rfl rfl rfl ?_; refine At.cq rfl rfl rfl rfl rfl rfl rfl rfl (s97 L _ bs bs bs) ?_; (iterate 3 refine At.v rfl rfl rfl rfl rfl trivial ?_); refine At.al rfl rfl rfl rfl rfl fun r11 => ?_; refine At.v rfl rfl rfl rfl rfl trivial ?_; refine At.st 0 rfl rfl rfl rfl rfl rfl rfl rfl rfl rfl rfl rfl ?_; refine At.regionEnd (At.seq (At.region ?_))
    (iterate 2 refine At.v rfl rfl rfl rfl rfl trivial ?_); refine At.regionEnd ?_
    exact At.ret Tryz.func115 (.inr ⟨_, rfl⟩) rfl (.tmp rfl .nil) (wk (hc _ _ (⟨by rfl, rfl⟩)))
end Go.Gx
end

section
set_option linter.unusedSimpArgs false
set_option linter.unusedVariables false
namespace Go.Gx
open Go Go.Conc Go.Proofs
variable {main : Bool}

end Go.Gx
end

section
/-
  LOGIC G: what a call has made is put behind the cells that one knows by their places.
-/
set_option linter.unusedSimpArgs false
set_option linter.unusedVariables false
namespace Go.Gx
open Go Go.Conc
/-- 'Y' is 'sf ++ X' with the own cells that stand first in 'X' ahead of 'sf'. -/
class Back (sf X : Facts) (Y : outParam Facts) : Prop where
  s : Sub Y (sf ++ X)
instance (priority := low) backNil {sf X : Facts} : Back sf X (sf ++ X) := ⟨Sub.refl _⟩
instance backCons {sf X Y : Facts} {r : Nat} {o : Obj} [h : Back sf X Y] : Back sf (.own r o :: X) (.own r o :: Y) :=
  ⟨(Sub.cons _ h.s).trans (Sub.of_perm List.perm_middle.symm)⟩
theorem At.back {P : Program} {main : Bool} {L : Lg P main} {f : FuncId} {ro : Option Nat} {ds : Dz} {cs : List Frame} {n : Nat} {E : Env} {k : List Item} {sf X Y : Facts} [hb : Back sf X Y] (h : At L f ro ds cs n E Y k) : At L f ro ds cs n E (sf ++ X) k :=
  h.weakH hb.s
end Go.Gx
end

section
set_option linter.unusedSimpArgs false
set_option linter.unusedVariables false
namespace Go.Gx
open Go Go.Conc Go.Proofs

end Go.Gx
end

section
set_option linter.unusedSimpArgs false
set_option linter.unusedVariables false
namespace Go.Gx
open Go Go.Conc Go.Proofs
variable {main : Bool}

end Go.Gx
end

section
set_option linter.unusedSimpArgs false
set_option linter.unusedVariables false
namespace Go.Gx
open Go Go.Conc Go.Proofs
variable {main : Bool}

theorem low_cross {n d : Int} (hd : d ≠ 0) : (low n d).1 * d = n * (low n d).2 := by
  unfold low lowN lowD
  have hg : 0 < Int.gcd n d := Int.gcd_pos_of_ne_zero_right n hd
  have h1 : ((Int.gcd n d : Nat) : Int) ∣ n := Int.gcd_dvd_left ..
  have h2 : ((Int.gcd n d : Nat) : Int) ∣ d := Int.gcd_dvd_right ..
  generalize ((Int.gcd n d : Nat) : Int) = g at *
  have hg0 : g ≠ 0 := by rintro rfl; exact hd (Int.zero_dvd.1 h2)
  obtain ⟨a, rfl⟩ := h1
  obtain ⟨b, rfl⟩ := h2
  split
  · rw [← Int.mul_neg, ← Int.mul_neg, Int.mul_tdiv_cancel_left _ hg0, Int.mul_tdiv_cancel_left _ hg0]
    simp only [Int.neg_mul, Int.mul_neg]
    rw [Int.mul_left_comm, Int.mul_assoc]
  · simp only
    rw [Int.mul_tdiv_cancel_left _ hg0, Int.mul_tdiv_cancel_left _ hg0, Int.mul_left_comm, Int.mul_assoc]
end Go.Gx
end

section
set_option linter.unusedSimpArgs false
set_option linter.unusedVariables false
namespace Go.Gx
open Go Go.Conc Go.Proofs

end Go.Gx
end

section
set_option linter.unusedSimpArgs false
set_option linter.unusedVariables false
namespace Go.Gx
open Go Go.Conc Go.Proofs
variable {main : Bool}

def knR (B : Bk) (r : Int) : Int := if bookBar B ≠ 0 then bookBar B else if r ≠ 0 then r else if (statesM B).length = 0 then 9 else 0
theorem knR_eq (B : Bk) (rs : List Int) : knR B (firstBar rs) = knownBar B rs := by
  unfold knR knownBar lookBar
  by_cases hz : bookBar B = 0
  · simp [hz]
  · simp [hz]
end Go.Gx
end

section
set_option linter.unusedSimpArgs false
set_option linter.unusedVariables false
namespace Go.Gx
open Go Go.Conc Go.Proofs
variable {main : Bool}

/-! ### where a line meets the canvas, and in which row -/
theorem low_den_pos {n d : Int} (hd : d ≠ 0) : 1 ≤ (low n d).2 := lowD_pos hd
theorem frac_le {n d a : Int} (hd : d ≠ 0) (h : 0 < d ∧ a * d ≤ n ∨ d < 0 ∧ n ≤ a * d) : a * (low n d).2 ≤ (low n d).1 := by
  have hc := low_cross (n := n) hd
  have hp := low_den_pos (n := n) hd
  generalize (low n d).1 = x at *
  generalize (low n d).2 = y at *
  have hy : 0 ≤ y := by omega
  have e : a * y * d = a * d * y := Int.mul_right_comm ..
  rcases h with ⟨h0, h⟩ | ⟨h0, h⟩
  · have := Int.mul_le_mul_of_nonneg_right h hy
    rw [← hc, ← e] at this
    exact Int.le_of_mul_le_mul_right this h0
  · have := Int.mul_le_mul_of_nonneg_right h hy
    rw [← hc, ← e] at this
    have h3 : a * y * -d ≤ x * -d := by rw [Int.mul_neg, Int.mul_neg]; omega
    exact Int.le_of_mul_le_mul_right h3 (by omega)
theorem le_frac {n d a : Int} (hd : d ≠ 0) (h : 0 < d ∧ n ≤ a * d ∨ d < 0 ∧ a * d ≤ n) : (low n d).1 ≤ a * (low n d).2 := by
  have hc := low_cross (n := n) hd
  have hp := low_den_pos (n := n) hd
  generalize (low n d).1 = x at *
  generalize (low n d).2 = y at *
  have hy : 0 ≤ y := by omega
  have e : a * y * d = a * d * y := Int.mul_right_comm ..
  rcases h with ⟨h0, h⟩ | ⟨h0, h⟩
  · have := Int.mul_le_mul_of_nonneg_right h hy
    rw [← hc, ← e] at this
    exact Int.le_of_mul_le_mul_right this h0
  · have := Int.mul_le_mul_of_nonneg_right h hy
    rw [← hc, ← e] at this
    have h3 : x * -d ≤ a * y * -d := by rw [Int.mul_neg, Int.mul_neg]; omega
    exact Int.le_of_mul_le_mul_right h3 (by omega)
/-- A point of a piece is between its ends. -/
theorem cross_high {p q : R2} {eye : Int} {s : R2} (hpq : p.2 < q.2) : ∀ x ∈ crossM p q eye s, p.2 * x.2.2 ≤ x.2.1 ∧ x.2.1 ≤ q.2 * x.2.2 := by
  intro x hx
  unfold crossM at hx
  rw [if_neg (by rintro rfl; omega)] at hx
  generalize ha : offL p eye s = a at hx
  generalize hb : offL q eye s = b at hx
  split at hx
  · simp only [List.mem_cons, List.not_mem_nil, or_false] at hx
    rcases hx with rfl | rfl <;> simp only <;> omega
  rename_i h0
  split at hx
  · rename_i hc
    rw [List.mem_singleton] at hx
    subst hx
    simp only
    have hd : a - b ≠ 0 := by omega
    have hpos : 0 < q.2 - p.2 := by omega
    have e1 : p.2 * (a - b) + (q.2 - p.2) * a - q.2 * (a - b) = (q.2 - p.2) * b := by
      rw [Int.sub_mul, Int.sub_mul, Int.mul_sub, Int.mul_sub]
      omega
    refine ⟨frac_le hd ?_, le_frac hd ?_⟩
    · rcases hc with hc | hc
      · refine .inr ⟨by omega, ?_⟩
        have := Int.mul_le_mul_of_nonneg_left hc.1 (Int.le_of_lt hpos)
        rw [Int.mul_zero] at this
        omega
      · refine .inl ⟨by omega, ?_⟩
        have := Int.mul_le_mul_of_nonneg_left hc.1 (Int.le_of_lt hpos)
        rw [Int.mul_zero] at this
        omega
    · rcases hc with hc | hc
      · refine .inr ⟨by omega, ?_⟩
        have := Int.mul_le_mul_of_nonneg_left hc.2 (Int.le_of_lt hpos)
        rw [Int.mul_zero] at this
        omega
      · refine .inl ⟨by omega, ?_⟩
        have := Int.mul_le_mul_of_nonneg_left hc.2 (Int.le_of_lt hpos)
        rw [Int.mul_zero] at this
        omega
  · cases hx
theorem meet_mem {ps : List R2} {eye : Int} {s : R2} {x : Spot} (h : meetM ps eye s = some x) : ∃ p q, (p, q) ∈ ps.zip ps.tail ∧ x ∈ crossM p q eye s := by
  have hx : x ∈ piecesM ps eye s := by
    unfold meetM at h
    split at h
    · cases h
    · rename_i y l e
      cases h
      rw [e]
      exact bestM_mem _ _ _
  unfold piecesM at hx
  obtain ⟨⟨p, q⟩, hpq, hx⟩ := List.mem_flatMap.1 hx
  exact ⟨p, q, hpq, hx⟩
theorem foot_le {B : Bk} (hz : bookBar B = 0) : ∀ p ∈ B.prof, footM B ≤ p.2 := by
  have hpw := prof_pw hz
  have h2 := (bounds_of_bar hz).1
  unfold footM
  cases hB : B.prof with
  | nil => simp
  | cons p0 ps =>
    rw [hB] at hpw
    intro p hp
    rcases List.mem_cons.1 hp with rfl | hp
    · exact Int.le_refl _
    · exact Int.le_of_lt ((List.pairwise_cons.1 hpw).1 p hp)
theorem foot_pos {B : Bk} (hz : bookBar B = 0) : 0 ≤ footM B := by
  have h2 := (bounds_of_bar hz).1
  have hp := (bounds_of_bar hz).2.2.1
  unfold footM
  cases hB : B.prof with
  | nil => rw [hB] at h2; simp at h2
  | cons p0 ps =>
    have := hp p0 (by rw [hB]; exact List.mem_cons_self ..)
    unfold PtOk at this
    simp only [List.headD_cons]
    omega
/-- How high a line meets the canvas. -/
theorem meet_high {B : Bk} (hz : bookBar B = 0) {eye : Int} {s : R2} {x : Spot} (h : meetM B.prof eye s = some x) : footM B * x.2.2 ≤ x.2.1 ∧ x.2.1 ≤ 90 * x.2.2 ∧ 1 ≤ x.2.2 ∨ x.2.2 ≤ 0 := by
  obtain ⟨p, q, hpq, hx⟩ := meet_mem h
  obtain ⟨hp, hq, hlt⟩ := pairs_ok (bounds_of_bar hz).2.2.1 (prof_pw hz) _ hpq
  obtain ⟨h1, h2⟩ := cross_high hlt x hx
  simp only at h1 h2
  by_cases h0 : 1 ≤ x.2.2
  · left
    have hf := foot_le hz p (List.of_mem_zip hpq).1
    simp only at hp hq hlt
    unfold PtOk at hp hq
    have a1 := Int.mul_le_mul_of_nonneg_right hf (show 0 ≤ x.2.2 by omega)
    have a2 := Int.mul_le_mul_of_nonneg_right (show q.2 ≤ 90 by omega) (show 0 ≤ x.2.2 by omega)
    omega
  · right; omega
/-- The row of what is met is a row. -/
theorem row_ok {B : Bk} (hz : bookBar B = 0) {eye : Int} {s : R2} (he : EyeOk eye) (hs : SlOk s) : rowM B eye s = -1 ∨ 0 ≤ rowM B eye s ∧ rowM B eye s ≤ 90 := by
  cases hm : meetM B.prof eye s with
  | none => left; exact rowM_none hm
  | some x =>
    right
    rw [rowM_some hm]
    have hok := meetM_ok (bounds_of_bar hz).2.2.1 he hs hm
    have hh := meet_high hz hm
    have hb := bounds_of_bar hz
    have hf := foot_pos hz
    obtain ⟨-, -, -, h2⟩ := hok
    unfold squareM
    simp only
    generalize hsz : B.size = z at *
    have hd : 0 < z * x.2.2 := Int.mul_pos (by omega) (by omega)
    have hn : 0 ≤ x.2.1 - footM B * x.2.2 := by omega
    refine ⟨Int.tdiv_nonneg hn (Int.le_of_lt hd), ?_⟩
    have h3 : x.2.1 - footM B * x.2.2 ≤ 90 * (z * x.2.2) := by
      have a1 : 0 ≤ footM B * x.2.2 := Int.mul_nonneg hf (by omega)
      have a2 : 1 * x.2.2 ≤ z * x.2.2 := Int.mul_le_mul_of_nonneg_right (by omega) (by omega)
      omega
    rw [Int.tdiv_eq_ediv_of_nonneg hn]
    have := Int.ediv_le_ediv hd h3
    rwa [Int.mul_ediv_cancel _ (by omega)] at this
theorem row_isSome {B : Bk} (hz : bookBar B = 0) {eye : Int} {s : R2} (he : EyeOk eye) (hs : SlOk s) : (meetM B.prof eye s).isSome = decide (0 ≤ rowM B eye s) := by
  cases hm : meetM B.prof eye s with
  | none => rw [rowM_none hm]; rfl
  | some x =>
    have := row_ok hz he hs
    have h1 : rowM B eye s ≠ -1 ∨ rowM B eye s = -1 := by omega
    rw [rowM_some hm] at *
    have hok := meetM_ok (bounds_of_bar hz).2.2.1 he hs hm
    have hh := meet_high hz hm
    have hb := bounds_of_bar hz
    obtain ⟨-, -, -, h2⟩ := hok
    have hn : 0 ≤ x.2.1 - footM B * x.2.2 := by omega
    have : 0 ≤ (squareM B x.2).1 := Int.tdiv_nonneg hn (Int.mul_nonneg (by omega) (by omega))
    simp [this]
theorem mem_states {B : Bk} {e : Int} : e ∈ statesM B ↔ (B.lo ≤ e ∧ e ≤ B.hi) ∧ rightM B e = true := by
  unfold statesM bandL
  rw [List.mem_filter, List.mem_map]
  constructor
  · rintro ⟨⟨k, hk, rfl⟩, h⟩
    rw [List.mem_range] at hk
    exact ⟨by omega, h⟩
  · rintro ⟨h1, h⟩
    exact ⟨⟨(e - B.lo).toNat, by rw [List.mem_range]; omega, by omega⟩, h⟩
/-! ### the reference's sorting -/
end Go.Gx
end

section
set_option linter.unusedSimpArgs false
set_option linter.unusedVariables false
namespace Go.Gx
open Go Go.Conc Go.Proofs
variable {main : Bool}

theorem sortM3 (a b c : Int) : sortM [a, b, c] = if b < a then (if c < a then (if c < b then [c, b, a] else [b, c, a]) else [b, a, c]) else (if c < b then (if c < a then [c, a, b] else [a, c, b]) else [a, b, c]) := by
  by_cases h1 : b < a <;> by_cases h2 : c < a <;> by_cases h3 : c < b <;> simp [sortM, outM, innerM, List.range_succ, h1, h2, h3]
end Go.Gx
end

section
set_option linter.unusedSimpArgs false
set_option linter.unusedVariables false
namespace Go.Gx
open Go Go.Conc Go.Proofs
variable {main : Bool}

end Go.Gx
end

section
set_option linter.unusedSimpArgs false
set_option linter.unusedVariables false
namespace Go.Gx
open Go Go.Conc Go.Proofs
variable {main : Bool}

end Go.Gx
end

section
set_option linter.unusedSimpArgs false
set_option linter.unusedVariables false
namespace Go.Gx
open Go Go.Conc Go.Proofs
variable {main : Bool}

end Go.Gx
end

section
set_option linter.unusedSimpArgs false
set_option linter.unusedVariables false
namespace Go.Gx
open Go Go.Conc Go.Proofs

theorem compactM_len : ∀ (l : List Int), (compactM l).length ≤ l.length
  | [] => Nat.le_refl _
  | [x] => Nat.le_refl _
  | x :: y :: l => by
    have := compactM_len (y :: l)
    unfold compactM
    split
    · simp at this ⊢; omega
    · simp at this ⊢; omega
theorem rowsM_len {B : Bk} (hz : bookBar B = 0) {s : R2} : (rowsM B s).length ≤ 3 := by
  unfold rowsM
  refine Nat.le_trans (compactM_len _) ?_
  rw [sortM_len]
  exact Nat.le_trans (List.length_filter_le _ _) (rowsOf_len hz s)
end Go.Gx
end

section
/-
  LOGIC G: a growing list is shared: nobody writes it any more.
-/
set_option linter.unusedSimpArgs false
set_option linter.unusedVariables false
namespace Go.Gx
open Go Go.Conc
theorem Sl.share {α : Type} {c : α → List Value} {sz : Nat} [he : Enc c sz] {T : TypeId} {v : Value} {xs : List α} {sf : Facts} (h : Sl c T v xs sf) :
    ∃ sg : Facts, (∀ f ∈ sg, f.isOwn = false) ∧ (∀ a n cap, v = .slice a n cap → Rd sg a (xs.flatMap c)) ∧
      ∀ {P : Program} {main : Bool} {L : Lg P main} {f : FuncId} {ro : Option Nat} {ds : Dz} {cs : List Frame} {n : Nat} {E : Env} {k : List Item} {H : Facts}, At L f ro ds cs n E (sg ++ H) k → At L f ro ds cs n E (sf ++ H) k := by
  unfold Sl at h
  generalize hvs : xs.flatMap c = vs at h
  generalize hk : xs.length = k at h
  cases h with
  | nil => exact ⟨[], by simp, fun a n cap e => by cases e; exact .inl rfl, fun h => h⟩
  | own b cap _ _ rest hl hc hm =>
    refine ⟨[.seg b 0 (vs ++ rest)], ?_, ?_, fun h => At.share h⟩
    · intro f hf
      rw [List.mem_singleton] at hf
      subst hf
      rfl
    · intro a n cap' e
      cases e
      exact rd_cells (by have := cells_seg (H := [.seg b 0 (vs ++ rest)]) (vs := vs) (us := vs ++ rest) (b := b) (off := 0) 0 (by simp) (by simp); simpa using this)
end Go.Gx
end

section
set_option linter.unusedSimpArgs false
set_option linter.unusedVariables false
namespace Go.Gx
open Go Go.Conc Go.Proofs
variable {main : Bool}

/-! ### a book whose marks are right for an eye -/
def trulyTo (B : Bk) (eye : Int) (j : Nat) : List (R2 × Int) := ((B.marks.take j).map fun m => (m.1, rowM B eye m.1)).filter fun m => decide (0 ≤ m.2)
def trulyM (B : Bk) (eye : Int) : Bk := { B with marks := trulyTo B eye B.marks.length }
theorem trulyTo_succ {B : Bk} {eye : Int} {j : Nat} (h : j < B.marks.length) : trulyTo B eye (j + 1) = trulyTo B eye j ++ (if 0 ≤ rowM B eye B.marks[j].1 then [(B.marks[j].1, rowM B eye B.marks[j].1)] else []) := by
  unfold trulyTo
  rw [List.take_succ_eq_append_getElem h, List.map_append, List.filter_append]
  congr 1
  simp only [List.map_cons, List.map_nil, List.filter_cons, List.filter_nil, decide_eq_true_eq]
theorem trulyTo_len {B : Bk} {eye : Int} {j : Nat} : (trulyTo B eye j).length ≤ j := by
  unfold trulyTo
  refine Nat.le_trans (List.length_filter_le _ _) ?_
  rw [List.length_map, List.length_take]
  omega
set_option maxRecDepth 100000 in
set_option maxHeartbeats 4000000 in
/-- Truly (law02) -/
theorem s73 (L : Lg Tryz.prog main) (H : Facts) {B : Bk} {A : BkA} {eye : Int} (hB : BkR H B A) (hz : bookBar B = 0) (he : EyeOk eye) :
    Grows L 73 #[bkV B A, .int .i64 eye] H (fun v sf => ∃ a cap, v = bkV (trulyM B eye) ⟨A.pa, A.pc, a, cap⟩ ∧ Sl c3 94 (.slice a (trulyM B eye).marks.length cap) (trulyM B eye).marks sf) := by
  refine Spec.enter Tryz.func73 rfl (by simp [Tryz.f73]) fun c cs hc => ?_
  have hb := bounds_of_bar hz
  have hrm := hB.m
  refine At.seq (At.region ?_); refine At.bx rfl rfl rfl rfl rfl rfl rfl fun r2 => ?_; refine At.al rfl rfl rfl rfl rfl fun r4 => ?_; refine At.regionEnd (At.seq (At.region ?_)); refine At.ld 1 rfl rfl rfl rfl rfl rfl rfl rfl rfl ?_; refine At.al rfl rfl rfl rfl rfl fun r5 => ?_; refine At.st 0 rfl rfl rfl rfl rfl rfl rfl rfl rfl rfl rfl rfl ?_; refine At.regionEnd (At.seq (At.region ?_)); refine At.fa 4 rfl rfl rfl rfl rfl rfl rfl ?_
  refine At.st 0 rfl rfl rfl rfl rfl rfl rfl rfl rfl rfl rfl rfl ?_; refine At.regionEnd (At.seq (At.seq (At.region ?_))); refine At.v rfl rfl rfl rfl rfl trivial ?_; refine At.regionEnd ?_; refine At.block ?_
  refine At.lpk (X := { x : Nat × Option Addr × Nat × Facts // x.1 ≤ B.marks.length ∧ Sl c3 94 (.slice x.2.1 (trulyTo B eye x.1).length x.2.2.1) (trulyTo B eye x.1) x.2.2.2 }) [1, 2, 4, 5] (fun x => [(6, .int .i64 (x.1.1 : Int))]) (fun x => .own r5 (.cells #[.slice A.pa B.prof.length A.pc, .int .i64 B.size, .int .i64 B.lo, .int .i64 B.hi, .slice x.1.2.1 (trulyTo B eye x.1.1).length x.1.2.2.1] 27 (0, 0)) :: .own r4 (.cells #[.slice none 0 0, .int .i64 0, .int .i64 0, .int .i64 0, .slice none 0 0] 27 (0, 0)) :: .own r2 (.cells (List.toArray (bkC B A)) 27 (0, 0)) :: (x.1.2.2.2 ++ H)) (fun x => B.marks.length - x.1.1) (⟨(0, none, 0, []), Nat.zero_le _, Sl.nil⟩) rfl ?_ (by repeat (first | exact trivial | refine ⟨rfl, ?_⟩)) sb
  rintro ⟨⟨j, a, cap, sf⟩, hj, hsl⟩ again
  simp only at again hj hsl ⊢
  have hlen := trulyTo_len (B := B) (eye := eye) (j := j)
  refine At.seq (At.seq (At.region ?_)); refine At.v rfl rfl rfl rfl rfl trivial ?_; refine At.fa 4 rfl rfl rfl rfl rfl rfl rfl ?_; refine At.ld 2 rfl rfl rfl rfl rfl rfl rfl rfl rfl ?_; refine At.ln rfl rfl rfl rfl rfl rfl rfl rfl ?_; refine At.cp rfl rfl rfl rfl rfl fun b14 h14 => ?_; refine At.regionEnd ?_
  cases b14
  · have e : j = B.marks.length := by simp at h14; omega
    subst e
    refine At.cond rfl ?_; refine At.exit rfl ?_; refine At.seq (At.region ?_); refine At.ld 0 rfl rfl rfl rfl rfl rfl rfl rfl rfl ?_; refine At.st 1 rfl rfl rfl rfl rfl rfl rfl rfl rfl rfl rfl rfl ?_; refine At.regionEnd ?_
    exact At.ret Tryz.func73 (.inr ⟨_, rfl⟩) rfl (.aggJ 1 rfl rfl rfl .nil) (wk (hc _ _ (⟨sf, ⟨a, cap, rfl, hsl⟩, rfl⟩)))
  · have hlt : j < B.marks.length := by simp at h14; omega
    obtain ⟨pa, pc, ma, mc⟩ := A
    obtain ⟨b, off, e', hc1⟩ := hrm.el (List.getElem?_eq_getElem hlt)
    simp only at e'
    subst e'
    have hsm := slOk_mark hz (List.getElem_mem hlt)
    have hsc := trulyTo_succ (eye := eye) hlt
    refine At.cond rfl ?_; refine At.skip (At.seq ?_); refine At.block ?_; refine At.seq (At.region ?_); refine At.fa 4 rfl rfl rfl rfl rfl rfl rfl ?_; refine At.ld 2 rfl rfl rfl rfl rfl rfl rfl rfl rfl ?_; refine At.v rfl rfl rfl rfl rfl trivial ?_; refine At.q rfl rfl rfl rfl (q_ia rfl rfl rfl (by assumption)) ?_; refine At.ldc rfl rfl rfl rfl rfl rfl hc1.a rfl rfl ?_; refine At.al rfl rfl rfl rfl rfl fun r7 => ?_; refine At.st 0 rfl rfl rfl rfl rfl rfl rfl rfl rfl rfl rfl rfl ?_
    refine At.regionEnd (At.seq (At.region ?_)); refine At.ld 3 rfl rfl rfl rfl rfl rfl rfl rfl rfl ?_; refine At.v rfl rfl rfl rfl rfl trivial ?_; refine At.fa 0 rfl rfl rfl rfl rfl rfl rfl ?_; refine At.ld 0 rfl rfl rfl rfl rfl rfl rfl rfl rfl ?_; refine At.cq rfl rfl rfl rfl rfl rfl rfl rfl (s115 L _ bs bs bs bs) ?_; refine At.fa 2 rfl rfl rfl rfl rfl rfl rfl ?_; refine At.st 0 rfl rfl rfl rfl rfl rfl rfl rfl rfl rfl rfl rfl ?_; refine At.regionEnd (At.seq (At.region ?_))
    refine At.fa 2 rfl rfl rfl rfl rfl rfl rfl ?_; refine At.ld 0 rfl rfl rfl rfl rfl rfl rfl rfl rfl ?_; refine At.cp rfl rfl rfl rfl rfl fun b30 h30 => ?_; refine At.regionEnd ?_
    cases b30
    · have e : ¬ 0 ≤ rowM B eye B.marks[j].1 := by simpa using h30
      rw [if_neg e, List.append_nil] at hsc
      have ag := again ⟨(j + 1, a, cap, sf), hlt, by rw [hsc]; exact hsl⟩ (by simp; omega)
      simp only [hsc] at ag
      refine At.cond rfl ?_; refine At.skip ?_; refine At.inBlock ?_; refine At.region ?_; refine At.v rfl rfl rfl rfl rfl trivial ?_; refine At.v rfl rfl rfl rfl rfl (by omega) ?_; refine At.v rfl rfl rfl rfl rfl trivial ?_; refine At.regionEnd ?_
      refine At.tA (ag)
    · have e : 0 ≤ rowM B eye B.marks[j].1 := by simpa using h30
      rw [if_pos e] at hsc
      refine At.cond rfl ?_; refine At.region ?_; refine At.fa 4 rfl rfl rfl rfl rfl rfl rfl ?_; refine At.ld 1 rfl rfl rfl rfl rfl rfl rfl rfl rfl ?_; refine At.ld 0 rfl rfl rfl rfl rfl rfl rfl rfl rfl ?_
      (refine At.l rfl rfl rfl rfl (l_buildSlice rfl rfl rfl rfl rfl) ?_; rintro _ _ ⟨r34, rfl, rfl⟩)
      refine At.push (x := (B.marks[j].1, rowM B eye B.marks[j].1)) 0 5 rfl rfl rfl rfl rfl rfl rfl rfl rfl rfl rfl rfl rfl rfl hsl rfl rfl rfl ?_ fun v sf hs => ?_
      · omega
      · rw [← hsc] at hs
        obtain ⟨a', cap', rfl⟩ := hs.slice
        have ag := again ⟨(j + 1, a', cap', sf), hlt, hs⟩ (by simp; omega)
        refine At.fa 4 rfl rfl rfl rfl rfl rfl rfl ?_; refine At.st 2 rfl rfl rfl rfl rfl rfl rfl rfl rfl rfl rfl rfl ?_; refine At.regionEnd ?_; refine At.inBlock ?_; refine At.region ?_; refine At.v rfl rfl rfl rfl rfl trivial ?_; refine At.v rfl rfl rfl rfl rfl (by omega) ?_; refine At.v rfl rfl rfl rfl rfl trivial ?_; refine At.regionEnd ?_
        refine At.tA (ag)
/-- said (law02) -/
theorem s74 (L : Lg Tryz.prog main) (H : Facts) {w : Int} {is : Bool} : Pure L 74 #[.int .i64 w, .bool is] H (.bool (decide (w = 0 ∨ decide (w = 1) = is))) := by
  refine Spec.enter Tryz.func74 rfl (by simp [Tryz.f74]) fun c cs hc => ?_; refine At.seq (At.region ?_); refine At.v rfl rfl rfl rfl rfl trivial ?_; refine At.regionEnd (At.seq (At.region ?_)); refine At.v rfl rfl rfl rfl rfl trivial ?_; refine At.cp rfl rfl rfl rfl rfl fun b6 h6 => ?_; refine At.v rfl rfl rfl rfl rfl trivial ?_
  cases b6
  · refine At.v rfl rfl rfl rfl rfl trivial ?_
    refine At.cp rfl rfl rfl rfl rfl fun b9 h9 => ?_; refine At.v rfl rfl rfl rfl rfl trivial ?_; refine At.qb rfl rfl rfl rfl (q_eqlB rfl rfl rfl) fun b11 h11 => ?_; (iterate 2 refine At.v rfl rfl rfl rfl rfl trivial ?_); refine At.regionEnd ?_
    exact At.ret Tryz.func74 (.inr ⟨_, rfl⟩) rfl (.tmp rfl .nil) (wk (hc _ _ (⟨by simp_all [resVal], rfl⟩)))
  · refine At.un rfl rfl rfl rfl ?_
    (iterate 3 refine At.un rfl rfl rfl rfl ?_); (iterate 2 refine At.v rfl rfl rfl rfl rfl trivial ?_); refine At.regionEnd ?_
    exact At.ret Tryz.func74 (.inr ⟨_, rfl⟩) rfl (.tmp rfl .nil) (wk (hc _ _ (⟨by simp_all [resVal], rfl⟩)))
/-! ### the plain law of CanvasReal -/
theorem truly_row (B : Bk) (eye e : Int) (s : R2) : rowM (trulyM B eye) e s = rowM B e s := rfl
theorem truly_mem {B : Bk} {eye : Int} {m : R2 × Int} (h : m ∈ (trulyM B eye).marks) : (∃ k, (m.1, k) ∈ B.marks) ∧ m.2 = rowM B eye m.1 ∧ 0 ≤ m.2 := by
  unfold trulyM trulyTo at h
  simp only [List.take_length] at h
  obtain ⟨h1, h2⟩ := List.mem_filter.1 h
  obtain ⟨x, hx, rfl⟩ := List.mem_map.1 h1
  exact ⟨⟨x.2, hx⟩, rfl, by simpa using h2⟩
theorem truly_bar {B : Bk} {eye : Int} (hz : bookBar B = 0) (he : EyeOk eye) : bookBar (trulyM B eye) = 0 := by
  have hb := bounds_of_bar hz
  refine bookBar_marks hz ?_ ?_
  · have := trulyTo_len (B := B) (eye := eye) (j := B.marks.length)
    omega
  · intro m hm
    obtain ⟨⟨k, hk⟩, h2, h3⟩ := truly_mem (B := B) (eye := eye) (m := m) hm
    have hmk := hb.2.2.2.2.2.2.2.2.2.2 _ hk
    have hs := slOk_mark hz hk
    have hr := row_ok hz he hs
    have h0 : slopeBar m.1.1 m.1.2 = 0 := by
      unfold markBar at hmk
      by_cases e : slopeBar m.1.1 m.1.2 = 0
      · exact e
      · simp only at hmk; rw [if_pos e] at hmk; exact absurd hmk e
    unfold markBar
    rw [if_neg (by simpa using h0)]
    unfold hBar
    rw [if_pos]
    simp only at hr
    omega
theorem truly_right {B : Bk} {eye : Int} : rightM (trulyM B eye) eye = true := by
  unfold rightM
  rw [List.all_eq_true]
  intro m hm
  have := (truly_mem hm).2.1
  rw [truly_row]
  simp [this]
theorem sortM_mem3 {l : List Int} (h : l.length ≤ 3) (x : Int) : x ∈ compactM (sortM l) ↔ x ∈ l := by
  match l, h with
  | [], _ => simp [sortM, outM, innerM, compactM]
  | [a], _ => simp [sortM, outM, innerM, compactM, List.range_succ]
  | [a, b], _ =>
    have e : sortM [a, b] = if b < a then [b, a] else [a, b] := by
      by_cases h1 : b < a <;> simp [sortM, outM, innerM, List.range_succ, h1]
    rw [e]
    split
    · unfold compactM
      split
      · simp [compactM]; omega
      · simp [compactM]; omega
    · unfold compactM
      split
      · simp [compactM]; omega
      · simp [compactM]
  | [a, b, c], _ =>
    rw [sortM3]
    have key : ∀ p q r : Int, x ∈ compactM [p, q, r] ↔ x = p ∨ x = q ∨ x = r := by
      intro p q r
      unfold compactM
      split
      · rename_i h1
        unfold compactM
        split
        · simp [compactM]; omega
        · simp [compactM]; omega
      · unfold compactM
        split
        · simp [compactM]; omega
        · simp [compactM]
    split <;> split <;> (try split) <;> rw [key] <;> simp <;> omega
theorem rowsM_mem {B : Bk} (hz : bookBar B = 0) {s : R2} {x : Int} : x ∈ rowsM B s ↔ x ≠ -1 ∧ ∃ e ∈ statesM B, rowM B e s = x := by
  unfold rowsM
  rw [sortM_mem3 (Nat.le_trans (List.length_filter_le _ _) (rowsOf_len hz s)), List.mem_filter]
  unfold rowsOf
  rw [List.mem_map]
  simp only [decide_eq_true_eq]
  exact And.comm
theorem word_said {l : List Int} {e x : Int} {f : Int → Int} (he : e ∈ l) : decide (wordM l.length (((l.map f).count x : Nat) : Int) = 0 ∨ decide (wordM l.length (((l.map f).count x : Nat) : Int) = 1) = decide (f e = x)) = true := by
  have hm : f e ∈ l.map f := List.mem_map.2 ⟨e, he, rfl⟩
  unfold wordM
  rw [decide_eq_true_eq]
  by_cases h1 : (((l.map f).count x : Nat) : Int) = (l.length : Int)
  · right
    rw [if_pos h1]
    have h2 : (l.map f).count x = (l.map f).length := by rw [List.length_map]; omega
    have := List.count_eq_length.1 h2 _ hm
    simp [this]
  · rw [if_neg h1]
    by_cases h2 : (((l.map f).count x : Nat) : Int) = 0
    · right
      rw [if_pos h2]
      have : x ∉ l.map f := List.count_eq_zero.1 (by omega)
      have h3 : f e ≠ x := fun h => this (h ▸ hm)
      simp [h3]
    · left
      rw [if_neg h2]
end Go.Gx
end

section
set_option linter.unusedSimpArgs false
set_option linter.unusedVariables false
namespace Go.Gx
open Go Go.Conc Go.Proofs

theorem kn0 {B : Bk} {rs : List Int} (hz : bookBar B = 0) (hr : firstBar rs = 0) (hs : (statesM B).length ≠ 0) : knownBar B rs = 0 := by
  rw [← knR_eq, hr]
  unfold knR
  rw [if_neg (by simpa using hz), if_neg (by simp), if_neg hs]
set_option maxRecDepth 100000 in
set_option maxHeartbeats 4000000 in
/-- CanvasReal -/
theorem law17 {Post : Value → World → Prop} {W₀ : World} {H Hg : Facts} (hG : Glo H Hg) (hsh : ∀ f ∈ H, f.isOwn = false) {B : Bk} {A : BkA} (hBk : BkR H B A) {h d k n : Int} (hh : 0 ≤ h ∧ h ≤ 255) (hd : 0 ≤ d ∧ d ≤ 255) (hk : 0 ≤ k ∧ k ≤ 255) (hn : -128 ≤ n ∧ n ≤ 127) :
    LawAt (mainLg Tryz.prog Post W₀ [] []) 17 #[bkV B A, .int .u8 h, .int .u8 d, .int .u8 k, .int .i8 n] H (.bool true) := by
  refine LawAt.enter Tryz.func17 rfl (by simp [Tryz.f17]) fun cs hLB => ?_
  obtain ⟨pa, pc, ma, mc⟩ := A
  generalize hL : mainLg Tryz.prog Post W₀ [] [] = L at hLB ⊢
  refine At.seq (At.region ?_); refine At.bx rfl rfl rfl rfl rfl rfl rfl fun r5 => ?_; refine At.v rfl rfl rfl rfl rfl trivial ?_; refine At.regionEnd (At.seq (At.seq (At.region ?_))); refine At.ld 0 rfl rfl rfl rfl rfl rfl rfl rfl rfl ?_; refine At.cqb rfl rfl rfl rfl rfl rfl rfl rfl (s39 L _ bs) fun b30 h30 => ?_; refine At.v rfl rfl rfl rfl rfl trivial ?_; refine At.regionEnd ?_
  cases b30
  · have stop22 := trivial
    refine At.cond rfl ?_; refine At.seq (At.region ?_)
    subst hL
    refine At.cq rfl rfl rfl rfl rfl rfl rfl rfl (s22 hG.a) ?_; refine At.v rfl rfl rfl rfl rfl trivial ?_; refine At.regionEnd ?_
    exact hLB Tryz.func17 (.inr ⟨_, rfl⟩) rfl (.tmp rfl .nil) (⟨by rfl, rfl⟩)
  have hf : fitM B = true := h30
  have hz : bookBar B = 0 := by simp [fitM] at hf; exact hf.2.2
  have hg : Cells H 0 0 chkC := hG.g.a hG.sub
  have hb := bounds_of_bar hz
  have w1 : IntKind.wrap .i64 h = h := wrap_in (by omega)
  have w2 : IntKind.wrap .i64 k = k := wrap_in (by omega)
  have g1 : B.hi - B.lo + 1 ≠ 0 := by omega
  have g2 := Int.tmod_nonneg (B.hi - B.lo + 1) hh.1
  have g3 : h.tmod (B.hi - B.lo + 1) < B.hi - B.lo + 1 := Int.tmod_lt_of_pos _ (by omega)
  have g4 : EyeOk (B.lo + h.tmod (B.hi - B.lo + 1)) := by unfold EyeOk; omega
  have stop73 := trivial
  refine At.cond rfl ?_; refine At.skip (At.seq ?_); refine At.drawJ hmix [] rfl ?_; refine Pool.fa 2 0 rfl rfl rfl rfl rfl rfl rfl rfl rfl ?_; refine Pool.fa 2 1 rfl rfl rfl rfl rfl rfl rfl rfl rfl ?_; refine Pool.ld 0 2 rfl rfl rfl rfl rfl rfl rfl rfl rfl rfl rfl ?_; refine Pool.v 3 rfl rfl rfl rfl rfl rfl rfl trivial ?_; refine Pool.q 4 rfl rfl rfl rfl rfl (q_conv rfl rfl (by assumption)) rfl ?_; refine Pool.fa 2 5 rfl rfl rfl rfl rfl rfl rfl rfl rfl ?_
  refine Pool.fa 3 6 rfl rfl rfl rfl rfl rfl rfl rfl rfl ?_; refine Pool.ld 0 7 rfl rfl rfl rfl rfl rfl rfl rfl rfl rfl rfl ?_; refine Pool.fa 2 8 rfl rfl rfl rfl rfl rfl rfl rfl rfl ?_; refine Pool.fa 2 9 rfl rfl rfl rfl rfl rfl rfl rfl rfl ?_; refine Pool.ld 0 10 rfl rfl rfl rfl rfl rfl rfl rfl rfl rfl rfl ?_; refine Pool.v 11 rfl rfl rfl rfl rfl rfl rfl (by omega) ?_; refine Pool.v 12 rfl rfl rfl rfl rfl rfl rfl (by omega) ?_; refine Pool.v 13 rfl rfl rfl rfl rfl rfl rfl (by assumption) ?_
  refine Pool.v 14 rfl rfl rfl rfl rfl rfl rfl (by omega) ?_; refine Pool.v 15 rfl rfl rfl rfl rfl rfl rfl trivial ?_; refine Pool.v 16 rfl rfl rfl rfl rfl rfl rfl trivial ?_; refine Pool.cq 17 rfl rfl rfl rfl rfl rfl rfl rfl rfl (fun H hs => s40 L H bs bs) ?_; refine Pool.v 18 rfl rfl rfl rfl rfl rfl rfl trivial ?_; refine Pool.q 19 rfl rfl rfl rfl rfl (q_conv rfl rfl (by assumption)) rfl ?_; refine Pool.v 20 rfl rfl rfl rfl rfl rfl rfl (by omega) ?_
  refine Pool.al 21 rfl rfl rfl rfl rfl rfl rfl rfl rfl rfl rfl sb fun r12 => ?_; refine Pool.v 22 rfl rfl rfl rfl rfl rfl rfl trivial ?_; refine Pool.st 0 23 rfl rfl rfl rfl rfl rfl rfl rfl rfl rfl rfl rfl rfl rfl rfl rfl rfl rfl sb ?_; refine Pool.v 24 rfl rfl rfl rfl rfl rfl rfl trivial ?_; refine pool_done rfl rfl ?_; refine At.regionEnd (At.seq (At.region ?_)); refine At.ld 1 rfl rfl rfl rfl rfl rfl rfl rfl rfl ?_; refine At.v rfl rfl rfl rfl rfl trivial ?_
  clear stop73
  have hr : EyeOk (k.tmod 91) := ⟨Int.tmod_nonneg _ hk.1, by have := Int.tmod_lt_of_pos k (show (0 : Int) < 91 by decide); omega⟩
  have hs : slopeBar (low (n.tmod 21) (1 + d.tmod 20)).1 (low (n.tmod 21) (1 + d.tmod 20)).2 = 0 :=
    low_slope (tmod_bd n 21 (by omega)) (by have h1 := Int.tmod_nonneg 20 hd.1; have h2 := Int.tmod_lt_of_pos d (show (0 : Int) < 20 by decide); omega)
  have g6 : B.lo ≤ B.lo + h.tmod (B.hi - B.lo + 1) ∧ B.lo + h.tmod (B.hi - B.lo + 1) ≤ B.hi := by omega
  clear g2 g3
  generalize B.lo + h.tmod (B.hi - B.lo + 1) = eye at g4 g6 ⊢
  generalize k.tmod 91 = row at hr ⊢
  generalize low (n.tmod 21) (1 + d.tmod 20) = s at hs ⊢
  refine At.cl rfl rfl rfl rfl rfl rfl rfl rfl (s73 L _ hBk.a hz g4) ?_
  rintro _ _ ⟨sf, ⟨a, cap, rfl, hsl⟩, rfl⟩
  obtain ⟨sg, hsg, hrg, hshare⟩ := hsl.share
  refine hshare ?_; refine At.back ?_
  have hz' := truly_bar hz g4
  have hst : eye ∈ statesM (trulyM B eye) := mem_states.2 ⟨g6, truly_right⟩
  have hB' : BkR (sg ++ H) (trulyM B eye) ⟨pa, pc, a, cap⟩ := ⟨hBk.p.more (Sub.append_left _ _), (hrg _ _ _ rfl).more (Sub.pre _ _)⟩
  have hO' : OpS (sg ++ H) (sg ++ H) (trulyM B eye) ⟨pa, pc, a, cap⟩ := ⟨Sub.refl _, fun f hf => (List.mem_append.1 hf).elim (hsg f) (hsh f), ⟨hg.a (Sub.append_left _ _), hB', by have := (bounds_of_bar hz').2.1; omega, by have := (bounds_of_bar hz').2.2.2.2.2.2.2.2.2.1; omega⟩⟩
  generalize trulyM B eye = C at hz' hst hB' hO' ⊢
  have hne : (statesM C).length ≠ 0 := by have := List.length_pos_of_mem hst; omega
  have he0 : hBar eye = 0 := if_pos g4
  have hr0 : hBar row = 0 := if_pos hr
  have b1 : lookBar C [hBar eye] = 0 := by rw [lookBar1 hz', firstBar1, he0]
  have b2 : lookBar C [hBar eye, slopeBar s.1 s.2] = 0 := by rw [lookBar1 hz', he0, hs]; rfl
  have b3 : knownBar C [slopeBar s.1 s.2] = 0 := kn0 hz' (by rw [hs]; rfl) hne
  have b4 : knownBar C [slopeBar s.1 s.2, hBar row] = 0 := kn0 hz' (by rw [hs, hr0]; rfl) hne
  have hin : decide (C.lo ≤ eye ∧ eye ≤ C.hi) && rightM C eye := by
    obtain ⟨h1, h2⟩ := mem_states.1 hst
    simp [h1, h2]
  have hcl : clashM C = ([], 0) := by
    unfold clashM clashL
    rw [if_neg (by simpa using hz'), if_neg hne]
  have q67 := fun H_ (hO_ : Opn H_ C ⟨pa, pc, a, cap⟩) => s67 L H_ (eye := eye) hO_
  have q51 := fun H_ (hO_ : Opn H_ C ⟨pa, pc, a, cap⟩) => s51 L H_ hO_
  have q27 := fun H_ (hO_ : Opn H_ C ⟨pa, pc, a, cap⟩) => s27 L H_ (s := s) (eye := eye) hO_
  have q52 := fun H_ (hO_ : OpS H_ (sg ++ H) C ⟨pa, pc, a, cap⟩) => s52 (Post := Post) (W₀ := W₀) (s := s) hO_
  have q66 := fun H_ (hO_ : OpS H_ (sg ++ H) C ⟨pa, pc, a, cap⟩) => s66 (Post := Post) (W₀ := W₀) (s := s) (row := row) hO_
  have q59 := fun H_ (hO_ : Opn H_ C ⟨pa, pc, a, cap⟩) => s59 L H_ hO_
  simp only [hL, b1, b2, b3, b4, hz', hin, hcl, ne_eq, not_true_eq_false, if_false, sqV_eq] at q67 q51 q27 q52 q66 q59
  have e1 : decide (wordM (statesM C).length (((rowsOf C s).count (-1) : Nat) : Int) = 0 ∨ decide (wordM (statesM C).length (((rowsOf C s).count (-1) : Nat) : Int) = 1) = decide (rowM C eye s = -1)) = true := word_said (f := fun e => rowM C e s) (x := -1) hst
  have e2 : decide (wordM (statesM C).length (((rowsOf C s).count row : Nat) : Int) = 0 ∨ decide (wordM (statesM C).length (((rowsOf C s).count row : Nat) : Int) = 1) = decide (rowM C eye s = row)) = true := word_said (f := fun e => rowM C e s) (x := row) hst
  have e3 : rowM C eye s = -1 ↔ (meetM C.prof eye s).isSome = false := by
    rw [row_isSome hz' g4 (slOk_of s hs)]
    have := row_ok hz' g4 (slOk_of s hs)
    simp
    omega
  have e4 := row_sqD (B := C) (eye := eye) (s := s) hr
  have e5 : (meetM C.prof eye s).isSome = true → (sqD C eye s).1 ∈ rowsM C s := by
    intro h0
    have h1 : rowM C eye s = (sqD C eye s).1 := by
      unfold sqD
      cases hm : meetM C.prof eye s with
      | none => rw [hm] at h0; cases h0
      | some x => rw [rowM_some hm]; rfl
    rw [rowsM_mem hz']
    refine ⟨?_, eye, hst, h1⟩
    rw [← h1]
    intro h2
    rw [e3, h0] at h2
    cases h2
  have l1 := rowsM_len hz' (s := s)
  have l2 := statesM_len hz'
  unfold fallsM at q66
  obtain ⟨v1, hv1⟩ : ∃ y, wordM (statesM C).length (((rowsOf C s).count (-1) : Nat) : Int) = y := ⟨_, rfl⟩
  simp only [hv1] at e1 q52
  obtain ⟨v2, hv2⟩ : ∃ y, wordM (statesM C).length (((rowsOf C s).count row : Nat) : Int) = y := ⟨_, rfl⟩
  simp only [hv2] at e2 q66
  generalize rowsM C s = v3 at e5 l1 q52
  generalize statesM C = v4 at hst l2 q51
  generalize sqD C eye s = v5 at e4 e5 q27
  obtain ⟨fo, hfo⟩ : ∃ fo, (meetM C.prof eye s).isSome = fo := ⟨_, rfl⟩
  simp only [hfo] at e3 e4 e5 q27
  have stop67 := trivial
  have stop51 := trivial
  have stop27 := trivial
  have stop52 := trivial
  have stop66 := trivial
  have stop59 := trivial
  refine At.st 1 rfl rfl rfl rfl rfl rfl rfl rfl rfl rfl rfl rfl ?_; refine At.regionEnd (At.seq (At.region ?_)); refine At.ld 1 rfl rfl rfl rfl rfl rfl rfl rfl rfl ?_; refine At.v rfl rfl rfl rfl rfl trivial ?_; refine At.cq rfl rfl rfl rfl rfl rfl rfl rfl (q67 _ (hO'.a.opn)) ?_; (iterate 5 refine At.v rfl rfl rfl rfl rfl trivial ?_); refine At.regionEnd (At.seq (At.region ?_)); refine At.ld 1 rfl rfl rfl rfl rfl rfl rfl rfl rfl ?_
  refine At.cl rfl rfl rfl rfl rfl rfl rfl rfl (q51 _ (hO'.a.opn)) ?_
  rintro _ _ ⟨sf1, ⟨a1, cap1, rfl, hsl1⟩, rfl⟩
  refine At.back ?_; (iterate 5 refine At.v rfl rfl rfl rfl rfl trivial ?_); refine At.regionEnd (At.seq (At.region ?_)); refine At.ld 1 rfl rfl rfl rfl rfl rfl rfl rfl rfl ?_; refine At.v rfl rfl rfl rfl rfl trivial ?_; refine At.ld 0 rfl rfl rfl rfl rfl rfl rfl rfl rfl ?_; refine At.cq rfl rfl rfl rfl rfl rfl rfl rfl (q27 _ (hO'.a.opn)) ?_; (iterate 5 refine At.v rfl rfl rfl rfl rfl trivial ?_); refine At.al rfl rfl rfl rfl rfl fun r19 => ?_; refine At.v rfl rfl rfl rfl rfl trivial ?_
  refine At.st 0 rfl rfl rfl rfl rfl rfl rfl rfl rfl rfl rfl rfl ?_; (iterate 2 refine At.v rfl rfl rfl rfl rfl trivial ?_); refine At.regionEnd (At.seq (At.region ?_)); refine At.ld 2 rfl rfl rfl rfl rfl rfl rfl rfl rfl ?_; refine At.ld 1 rfl rfl rfl rfl rfl rfl rfl rfl rfl ?_; refine At.cl rfl rfl rfl rfl rfl rfl rfl rfl (q52 _ hO'.a) ?_
  rintro _ _ ⟨sf2, ⟨a2, cap2, rfl, hsl2⟩, rfl⟩
  refine At.back ?_; (iterate 7 refine At.v rfl rfl rfl rfl rfl trivial ?_); refine At.regionEnd (At.seq (At.region ?_)); refine At.ld 2 rfl rfl rfl rfl rfl rfl rfl rfl rfl ?_; refine At.ld 1 rfl rfl rfl rfl rfl rfl rfl rfl rfl ?_; refine At.v rfl rfl rfl rfl rfl trivial ?_; refine At.cq rfl rfl rfl rfl rfl rfl rfl rfl (q66 _ hO'.a) ?_; (iterate 5 refine At.v rfl rfl rfl rfl rfl trivial ?_); refine At.regionEnd (At.seq (At.region ?_)); refine At.ld 2 rfl rfl rfl rfl rfl rfl rfl rfl rfl ?_
  refine At.cl rfl rfl rfl rfl rfl rfl rfl rfl (q59 _ (hO'.a.opn)) ?_
  rintro _ _ ⟨sf3, ⟨a3, cap3, rfl, hrd3⟩, rfl⟩
  refine At.back ?_
  obtain ⟨_, r1, _⟩ := hsl1.rd
  obtain ⟨_, r2, _⟩ := hsl2.rd
  (iterate 5 refine At.v rfl rfl rfl rfl rfl trivial ?_); refine At.regionEnd (At.seq (At.seq (At.region ?_))); refine At.v rfl rfl rfl rfl rfl trivial ?_; refine At.cp rfl rfl rfl rfl rfl fun b97 h97 => ?_; refine At.v rfl rfl rfl rfl rfl trivial ?_
  obtain rfl : b97 = false := h97.symm.trans (by kernel_rfl)
  refine At.v rfl rfl rfl rfl rfl trivial ?_; refine At.cp rfl rfl rfl rfl rfl fun b100 h100 => ?_; (iterate 2 refine At.v rfl rfl rfl rfl rfl trivial ?_)
  obtain rfl : b100 = false := h100.symm.trans (by kernel_rfl)
  refine At.v rfl rfl rfl rfl rfl trivial ?_; refine At.cp rfl rfl rfl rfl rfl fun b104 h104 => ?_; (iterate 2 refine At.v rfl rfl rfl rfl rfl trivial ?_)
  obtain rfl : b104 = false := h104.symm.trans (by kernel_rfl)
  refine At.v rfl rfl rfl rfl rfl trivial ?_; refine At.cp rfl rfl rfl rfl rfl fun b108 h108 => ?_; (iterate 2 refine At.v rfl rfl rfl rfl rfl trivial ?_)
  obtain rfl : b108 = false := h108.symm.trans (by kernel_rfl)
  refine At.v rfl rfl rfl rfl rfl trivial ?_; refine At.cp rfl rfl rfl rfl rfl fun b112 h112 => ?_; (iterate 2 refine At.v rfl rfl rfl rfl rfl trivial ?_)
  obtain rfl : b112 = false := h112.symm.trans (by kernel_rfl)
  refine At.v rfl rfl rfl rfl rfl trivial ?_; refine At.cp rfl rfl rfl rfl rfl fun b116 h116 => ?_; refine At.v rfl rfl rfl rfl rfl trivial ?_; refine At.regionEnd ?_
  obtain rfl : b116 = false := h116.symm.trans (by kernel_rfl)
  refine At.cond rfl ?_; refine At.skip (At.seq (At.region ?_)); (iterate 4 refine At.v rfl rfl rfl rfl rfl trivial ?_); refine At.cqb rfl rfl rfl rfl rfl rfl rfl rfl (s48 L _ bs bs bs) fun b122 h122 => ?_; (iterate 2 refine At.v rfl rfl rfl rfl rfl trivial ?_)
  obtain rfl : b122 = true := by rw [← h122]; simp [hst]
  refine At.v rfl rfl rfl rfl rfl trivial ?_; refine At.ln rfl rfl rfl rfl rfl rfl rfl rfl ?_; refine At.cp rfl rfl rfl rfl rfl fun b127 h127 => ?_; (iterate 2 refine At.v rfl rfl rfl rfl rfl trivial ?_)
  obtain rfl : b127 = true := h127.symm.trans (by kernel_rfl)
  (iterate 3 refine At.v rfl rfl rfl rfl rfl trivial ?_)
  have stop22 := trivial
  cases fo
  · have e6 : decide (v1 = 0 ∨ decide (v1 = 1) = true) = true := by
      have e := e3.2 rfl
      simpa [e] using e1
    have e7 : decide (v2 = 0 ∨ decide (v2 = 1) = false) = true := by
      have e : ¬ rowM C eye s = row := fun h => by have := (e4.1 h).1; cases this
      simpa [e] using e2
    (iterate 3 refine At.un rfl rfl rfl rfl ?_); (iterate 6 refine At.v rfl rfl rfl rfl rfl trivial ?_); refine At.cqb rfl rfl rfl rfl rfl rfl rfl rfl (s74 L _) fun b142 h142 => ?_; (iterate 2 refine At.v rfl rfl rfl rfl rfl trivial ?_)
    obtain rfl : b142 = true := by rw [← h142]; exact e6
    (iterate 3 refine At.v rfl rfl rfl rfl rfl trivial ?_); (iterate 3 refine At.un rfl rfl rfl rfl ?_); refine At.v rfl rfl rfl rfl rfl trivial ?_; refine At.cqb rfl rfl rfl rfl rfl rfl rfl rfl (s74 L _) fun b152 h152 => ?_; (iterate 2 refine At.v rfl rfl rfl rfl rfl trivial ?_)
    obtain rfl : b152 = true := by rw [← h152]; exact e7
    skip
    subst hL
    refine At.cq rfl rfl rfl rfl rfl rfl rfl rfl (s22 hG.a) ?_; (iterate 2 refine At.v rfl rfl rfl rfl rfl trivial ?_); refine At.regionEnd ?_
    exact hLB Tryz.func17 (.inr ⟨_, rfl⟩) rfl (.tmp rfl .nil) (⟨by rfl, rfl⟩)
  · have e6 : decide (v1 = 0 ∨ decide (v1 = 1) = false) = true := by
      have e : ¬ rowM C eye s = -1 := fun h => by have := e3.1 h; cases this
      simpa [e] using e1
    have e8 := e5 rfl
    (iterate 2 refine At.v rfl rfl rfl rfl rfl trivial ?_); refine At.cqb rfl rfl rfl rfl rfl rfl rfl rfl (s48 L _ bs bs bs) fun b135 h135 => ?_; (iterate 3 refine At.v rfl rfl rfl rfl rfl trivial ?_)
    obtain rfl : b135 = true := by rw [← h135]; simp [e8]
    (iterate 3 refine At.v rfl rfl rfl rfl rfl trivial ?_); refine At.cqb rfl rfl rfl rfl rfl rfl rfl rfl (s74 L _) fun b142 h142 => ?_; (iterate 2 refine At.v rfl rfl rfl rfl rfl trivial ?_)
    obtain rfl : b142 = true := by rw [← h142]; exact e6
    (iterate 5 refine At.v rfl rfl rfl rfl rfl trivial ?_); refine At.cp rfl rfl rfl rfl rfl fun b150 h150 => ?_; refine At.v rfl rfl rfl rfl rfl trivial ?_; refine At.cqb rfl rfl rfl rfl rfl rfl rfl rfl (s74 L _) fun b152 h152 => ?_; (iterate 2 refine At.v rfl rfl rfl rfl rfl trivial ?_)
    have e7 : decide (v2 = 0 ∨ decide (v2 = 1) = b150) = true := by
      have e : (rowM C eye s = row) = (v5.1 = row) := propext ⟨fun h => (e4.1 h).2, fun h => e4.2 ⟨rfl, h⟩⟩
      rw [← h150]
      simpa [e] using e2
    cases b150
    · skip
      obtain rfl : b152 = true := by rw [← h152]; exact e7
      skip
      subst hL
      refine At.cq rfl rfl rfl rfl rfl rfl rfl rfl (s22 hG.a) ?_; (iterate 2 refine At.v rfl rfl rfl rfl rfl trivial ?_); refine At.regionEnd ?_
      exact hLB Tryz.func17 (.inr ⟨_, rfl⟩) rfl (.tmp rfl .nil) (⟨by rfl, rfl⟩)
    · skip
      obtain rfl : b152 = true := by rw [← h152]; exact e7
      skip
      subst hL
      refine At.cq rfl rfl rfl rfl rfl rfl rfl rfl (s22 hG.a) ?_; (iterate 2 refine At.v rfl rfl rfl rfl rfl trivial ?_); refine At.regionEnd ?_
      exact hLB Tryz.func17 (.inr ⟨_, rfl⟩) rfl (.tmp rfl .nil) (⟨by rfl, rfl⟩)
end Go.Gx
end

section
set_option linter.unusedSimpArgs false
set_option linter.unusedVariables false
namespace Go.Gx
open Go Go.Conc Go.Proofs Go.ChangeShapes Go.RowKit YtokdmiiejfmomaaGreatDoor
set_option maxRecDepth 100000
theorem ip17 : Tryz.prog.inPlace 17 = [] := by kernel_rfl
theorem uf17 : Tryz.prog.unfollowed 17 = true := by kernel_rfl
theorem rc17 : Tryz.prog.recurses 17 = true := by kernel_rfl
theorem vn17 : Tryz.prog.varsNamed 17 = ["velarium/canvas.checks"] := by kernel_rfl
theorem closed17 : joinedFacts Tryz.prog 17 Tryz.f17 Rows.canvasRealSpec Rows.canvasRealRow = true := by
  unfold joinedFacts
  rewrite [ip17, uf17, rc17, vn17, enter1, lf1, make1]
  kernel_rfl
theorem fnm17 : Tryz.prog.funcNamed "velarium/velariumlaw02.CanvasReal" = some 17 := by kernel_rfl
theorem inst17 : Tryz.f17.isInstance Tryz.prog Rows.canvasRealRow.origin Rows.canvasRealRow.targs := of_decide_eq_true (by kernel_rfl)
theorem wrap17 : Tryz.f17.isWrapper Tryz.prog Rows.canvasRealRow.wrapper Rows.canvasRealRow.mainSum := by unfold Func.isWrapper; first | (rw [if_pos (by decide +kernel)]; kernel_rfl) | (rw [if_neg (by decide +kernel)]; exact ⟨rfl, rfl⟩)
theorem goes17 : Tryz.prog.goes 17 = true := by kernel_rfl
theorem wbt17 : Rows.canvasRealRow.wfByText (OpenSpec.ofChange Rows.canvasRealSpec) = true := by kernel_rfl
theorem wants17 : (Tryz.f17.params.toList.all fun t => !Tryz.prog.wantsStandIn t) = true := by kernel_rfl
theorem lifted17 (os : Os) (started : os.Started) (H : Type) (enc : TypeId × Value → H) :
    ReturnsInLeavingWide {} Tryz.checked os 17 .any (fun w args => (Rows.canvasRealSpec.pre enc Tryz.prog Tryz.f17 [] false w args ∧ laidMetH Tryz.prog laid1 w) ∧ sizedMet enc Tryz.prog Tryz.f17 (OpenSpec.ofChange Rows.canvasRealSpec) false w args) (Rows.canvasRealSpec.post enc Tryz.prog Tryz.f17 false true false false) := by
  refine law_lift Tryz.func17 (by kernel_rfl) rfl rfl (by kernel_rfl) os started H enc #[.agg #[.slice none 0 0, .int .i64 0, .int .i64 0, .int .i64 0, .slice none 0 0], .int .u8 0, .int .u8 0, .int .u8 0, .int .i8 0]
    (World.shaped_of_RefB (by kernel_rfl) (by kernel_rfl)) (by kernel_rfl) (by kernel_rfl) (by kernel_rfl) ?_
  intro W base args ds ps hval hA
  rw [Tryz.params17] at hval hA
  obtain ⟨v0, vs0, d0, ds0, p0, q0, e0, rfl, rfl, h0, hA⟩ := trodAll_cons hA
  obtain ⟨v1, vs1, d1, ds1, p1, q1, rfl, rfl, rfl, h1, hA⟩ := trodAll_cons hA
  obtain ⟨v2, vs2, d2, ds2, p2, q2, rfl, rfl, rfl, h2, hA⟩ := trodAll_cons hA
  obtain ⟨v3, vs3, d3, ds3, p3, q3, rfl, rfl, rfl, h3, hA⟩ := trodAll_cons hA
  obtain ⟨v4, vs4, d4, ds4, p4, q4, rfl, rfl, rfl, h4, hA⟩ := trodAll_cons hA
  obtain ⟨rfl, rfl, rfl⟩ := trodAll_nil hA
  obtain rfl : args = #[v0, v1, v2, v3, v4] := Array.toList_inj.1 e0
  obtain ⟨B0, A0, Hs0, rfl, hsh0, hb0⟩ := open_book (hval 0 27 _ rfl rfl) h0
  obtain ⟨n1, rfl, rfl, rfl, w1⟩ := open_int Tryz.underlying5 (hval 1 5 _ rfl rfl) h1
  obtain ⟨n2, rfl, rfl, rfl, w2⟩ := open_int Tryz.underlying5 (hval 2 5 _ rfl rfl) h2
  obtain ⟨n3, rfl, rfl, rfl, w3⟩ := open_int Tryz.underlying5 (hval 3 5 _ rfl rfl) h3
  obtain ⟨n4, rfl, rfl, rfl, w4⟩ := open_int Tryz.underlying53 (hval 4 53 _ rfl rfl) h4
  exact ⟨rfl, Hs0, hsh0, fun Post => law17 hsh0.glo hsh0.ro (hb0.a (Sub.append_left _ _)) (wf_u8 w1) (wf_u8 w2) (wf_u8 w3) (wf_i8 w4)⟩
theorem said17 : Rows.CanvasRealSaid :=
  OpenClaim.holds_of_wide_leaving 17 Tryz.f17 rfl rfl rfl rfl rfl rfl rfl ⟨rfl, rfl, rfl, rfl, rfl⟩ rfl rfl rfl rfl rfl fnm17 Tryz.func17 closed17 inst17 wrap17
    (fun os started H enc _ => lifted17 os started H enc)
theorem card17 : Rows.CanvasRealCardSaid :=
  ⟨Claim7.tied_new_at .later [.funcs] true (Claim7.new_of_sixth said17 (true, "2aeeda9e0b315eb022070bc88bc80a554dcd329f773ad53586088327a2b29430") false rfl ⟨rfl, rfl⟩ mi1 rfl
    (fun f fn hf hfn => by
      obtain rfl : f = 17 := Option.some.inj (hf.symm.trans fnm17)
      obtain rfl : fn = Tryz.f17 := Option.some.inj (hfn.symm.trans Tryz.func17)
      exact ⟨looks1.symm, wants_of wants17⟩)) wbt17, (fun _ h => by cases h), canvasReal_row_tie, (fun h => by cases h), goes_of fnm17 goes17⟩
end Go.Gx
namespace Go.Proofs.YtokdmiiejfmomaaGreatDoor
/-- THE CARD OF CanvasReal. -/
theorem canvasReal_card : Rows.CanvasRealCardSaid := Go.Gx.card17
#print axioms canvasReal_card
end Go.Proofs.YtokdmiiejfmomaaGreatDoor
end
