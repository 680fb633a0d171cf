/-
  The law CanvasLines (CheckBook, Meet, Square and Hidden agree with the specification for every book, eye and slope): its tied card holds, for every input, without a condition.
-/
import Derived.Test.YtokdmiiejfmomaaGreatDoorW6
import Derived.SevenTiedAt
section
set_option linter.unusedSimpArgs false
set_option linter.unusedVariables false
namespace Go.Gx
open Go Go.Conc Go.Proofs Go.ChangeShapes Go.RowKit YtokdmiiejfmomaaGreatDoor
set_option maxRecDepth 100000
section
variable {H : Type} {enc : TypeId × Value → H} {W : World} {sp : Nat → Bool} {held : Bool}

/-- A fraction, a band, a sight, a mark, a list of fractions as an argument. -/
theorem open_ratio {r : Reach} {b0 : Nat} {v : Value} {d : DataW H} {ps : List MemPlace} (hval : Value.okWide Tryz.prog W r b0 29 v) (hd : DataW.Trod enc Tryz.prog W 0 sp held 29 v d ps) :
    ∃ s : R2, v = .agg #[.int .i64 s.1, .int .i64 s.2] := by
  obtain ⟨cs, rfl, hsz⟩ := Go.WideShapes.okWide_struct Tryz.underlying29 hval
  obtain ⟨fuel, hf⟩ := hd
  obtain ⟨l⟩ := cs
  obtain ⟨a, b, e⟩ := two Tryz.underlying29 ⟨rfl, rfl⟩ ⟨rfl, rfl⟩ (by kernel_rfl) (by kernel_rfl) hf
  have e' : l = [.int .i64 a, .int .i64 b] := e
  subst e'
  exact ⟨(a, b), rfl⟩
end
end Go.Gx
end

section
set_option linter.unusedSimpArgs false
set_option linter.unusedVariables false
namespace Go.Gx
open Go Go.Conc Go.Proofs

instance : BoI Tryz.prog 4 := ⟨by kernel_rfl⟩
end Go.Gx
end

section
set_option linter.unusedSimpArgs false
set_option linter.unusedVariables false
namespace Go.Gx
open Go Go.Conc Go.Proofs
variable {main : Bool}

/-! ### the reference's piece and point that is met, and that they are the program's -/
def pdR (p q s : R2) : Int := s.2 * (q.2 - p.2) - s.1 * (q.1 - p.1)
def pnR (p : R2) (eye : Int) (s : R2) : Int := eye * s.2 + s.1 * p.1 - s.2 * p.2
def spotR (p q : R2) (n d : Int) : Spot := (low (p.1 * d + (q.1 - p.1) * n) d, low (p.2 * d + (q.2 - p.2) * n) d)
def pieceR (p q : R2) (eye : Int) (s : R2) : Option Spot :=
  if pdR p q s = 0 ∧ pnR p eye s = 0 then some (if p.1 ≤ q.1 then (low p.1 1, low p.2 1) else (low q.1 1, low q.2 1))
  else if pdR p q s < 0 then (if -pnR p eye s < 0 ∨ -pdR p q s < -pnR p eye s then none else some (spotR p q (-pnR p eye s) (-pdR p q s)))
  else if pdR p q s = 0 ∨ pnR p eye s < 0 ∨ pdR p q s < pnR p eye s then none else some (spotR p q (pnR p eye s) (pdR p q s))
def stepR (o x : Option Spot) : Option Spot :=
  match x, o with
  | none, _ => o
  | some x, none => some x
  | some x, some y => if lessW x.1 y.1 then some x else some y
def accR (ps : List R2) (eye : Int) (s : R2) (j : Nat) : Option Spot := ((ps.zip ps.tail).take j).foldl (fun o x => stepR o (pieceR x.1 x.2 eye s)) none
def meetR (ps : List R2) (eye : Int) (s : R2) : Option Spot := (ps.zip ps.tail).foldl (fun o x => stepR o (pieceR x.1 x.2 eye s)) none
theorem low_one (n : Int) : low n 1 = (n, 1) := by
  have := low_mul (e := n) (d := 1) (by decide)
  rwa [Int.mul_one] at this
theorem low_neg {n d : Int} (hd : d ≠ 0) : low (-n) (-d) = low n d := by
  unfold low lowN lowD
  rw [Int.neg_gcd, Int.gcd_neg]
  by_cases h : d < 0
  · rw [if_pos h, if_pos h, if_neg (by omega), if_neg (by omega)]
  · rw [if_neg h, if_neg h, if_pos (by omega), if_pos (by omega), Int.neg_neg, Int.neg_neg]
theorem pn_off (p : R2) (eye : Int) (s : R2) : pnR p eye s = -offL p eye s := by
  unfold pnR offL
  rw [Int.sub_mul, Int.mul_comm s.2 p.2]
  omega
theorem pd_off (p q : R2) (eye : Int) (s : R2) : pdR p q s = offL q eye s - offL p eye s := by
  unfold pdR offL
  rw [Int.sub_mul, Int.sub_mul, Int.mul_sub, Int.mul_sub, Int.mul_comm s.2 p.2, Int.mul_comm s.2 q.2]
  omega
theorem lessW_pt {p : R2} {y : Spot} (hp : PtOk p) (hy : SpotOk y) : lessW (p.1, 1) y.1 = decide (p.1 * y.1.2 < y.1.1) := by
  obtain ⟨f1, f2, _, _⟩ := hy
  unfold PtOk at hp
  have a1 := mul_bd (a := p.1) (b := y.1.2) (A := 60) (B := 3000000) (by omega) (by omega)
  unfold lessW
  dsimp only
  rw [Int.mul_one, wr_in (by omega), wr_in (by omega)]
theorem lessW_pts {p q : R2} (hp : PtOk p) (hq : PtOk q) : lessW (p.1, 1) (q.1, 1) = decide (p.1 < q.1) := by
  unfold PtOk at hp hq
  unfold lessW
  dsimp only
  rw [Int.mul_one, Int.mul_one, wr_in (by omega), wr_in (by omega)]
theorem foldl_cross {p q : R2} {eye : Int} {s : R2} (hp : PtOk p) (hq : PtOk q) (he : EyeOk eye) (hs : SlOk s) (hpq : p.2 < q.2) {o : Option Spot} (ho : ∀ y, o = some y → SpotOk y) :
    (crossM p q eye s).foldl (fun o x => stepR o (some x)) o = stepR o (pieceR p q eye s) := by
  unfold crossM pieceR
  rw [if_neg (by rintro rfl; omega), pd_off p q eye s, pn_off]
  by_cases h0 : offL p eye s = 0 ∧ offL q eye s = 0
  · rw [if_pos h0, if_pos (by omega), low_one, low_one, low_one, low_one]
    simp only [List.foldl_cons, List.foldl_nil]
    cases o with
    | none =>
      simp only [stepR, lessW_pts hq hp]
      by_cases h : p.1 ≤ q.1
      · rw [if_pos h]
        simp [Int.not_lt.2 h]
      · rw [if_neg h]
        simp [Int.not_le.1 h]
    | some y =>
      have hy := ho y rfl
      simp only [stepR, lessW_pt hp hy]
      have y2 : 0 < y.1.2 := by have := hy.f2; omega
      by_cases h1 : p.1 * y.1.2 < y.1.1
      · simp only [h1, decide_true, if_true, lessW_pts hq hp]
        by_cases h : p.1 ≤ q.1
        · rw [if_pos h]
          simp [Int.not_lt.2 h, lessW_pt hp hy, h1]
        · rw [if_neg h]
          have h2 : q.1 * y.1.2 < y.1.1 := Int.lt_trans (Int.mul_lt_mul_of_pos_right (Int.not_le.1 h) y2) h1
          simp [Int.not_le.1 h, lessW_pt hq hy, h2]
      · simp only [h1, decide_false, lessW_pt hq hy]
        by_cases h : p.1 ≤ q.1
        · rw [if_pos h]
          have h2 : ¬ q.1 * y.1.2 < y.1.1 := by
            have := Int.mul_le_mul_of_nonneg_right h (Int.le_of_lt y2)
            omega
          simp [h2, lessW_pt hp hy, lessW_pt hq hy, h1]
        · rw [if_neg h]
          simp [lessW_pt hq hy]
  · have h0' : ¬ (offL q eye s - offL p eye s = 0 ∧ -offL p eye s = 0) := by omega
    rw [if_neg h0, if_neg h0']
    generalize offL p eye s = a at *
    generalize offL q eye s = b at *
    by_cases hd : b - a < 0
    · rw [if_pos hd]
      by_cases hc : a ≤ 0 ∧ 0 ≤ b ∨ 0 ≤ a ∧ b ≤ 0
      · have g : ¬ (- -a < 0 ∨ -(b - a) < - -a) := by omega
        rw [if_pos hc, if_neg g]
        unfold spotR
        rw [show - -a = a by omega, show -(b - a) = a - b by omega]
        rfl
      · have g : - -a < 0 ∨ -(b - a) < - -a := by omega
        rw [if_neg hc, if_pos g]
        rfl
    · rw [if_neg hd]
      by_cases hc : a ≤ 0 ∧ 0 ≤ b ∨ 0 ≤ a ∧ b ≤ 0
      · have g : ¬ (b - a = 0 ∨ -a < 0 ∨ b - a < -a) := by omega
        rw [if_pos hc, if_neg g]
        unfold spotR
        have e1 : a - b = -(b - a) := by omega
        have e2 : ∀ x y : Int, x * (a - b) + y * a = -(x * (b - a) + y * -a) := by
          intro x y
          rw [e1, Int.mul_neg, Int.mul_neg]
          omega
        rw [e2, e2, e1, low_neg (by omega), low_neg (by omega)]
        rfl
      · have g : b - a = 0 ∨ -a < 0 ∨ b - a < -a := by omega
        rw [if_neg hc, if_pos g]
        rfl
theorem spotR_ok {p q : R2} {eye : Int} {s : R2} (hp : PtOk p) (hq : PtOk q) (he : EyeOk eye) (hs : SlOk s) (hpq : p.2 < q.2) : ∀ x, pieceR p q eye s = some x → SpotOk x := by
  intro x hx
  have h := foldl_cross hp hq he hs hpq (o := none) (by simp)
  rw [hx] at h
  have key : ∀ (l : List Spot) (o : Option Spot), (∀ y ∈ l, SpotOk y) → (∀ y, o = some y → SpotOk y) → ∀ y, l.foldl (fun o x => stepR o (some x)) o = some y → SpotOk y := by
    intro l
    induction l with
    | nil => intro o _ ho; exact ho
    | cons a l ih =>
      intro o hl ho
      refine ih _ (fun y hy => hl y (List.mem_cons_of_mem _ hy)) ?_
      intro y hy
      cases o with
      | none => cases hy; exact hl _ (List.mem_cons_self ..)
      | some z =>
        simp only [stepR] at hy
        split at hy
        · cases hy; exact hl _ (List.mem_cons_self ..)
        · cases hy; exact ho _ rfl
  exact key _ none (crossM_ok hp hq he hs) (by simp) x h
theorem stepR_ok {o x : Option Spot} (ho : ∀ y, o = some y → SpotOk y) (hx : ∀ y, x = some y → SpotOk y) : ∀ y, stepR o x = some y → SpotOk y := by
  intro y hy
  cases x with
  | none => exact ho y hy
  | some x =>
    cases o with
    | none => exact hx y hy
    | some z =>
      simp only [stepR] at hy
      split at hy
      · exact hx y hy
      · exact ho y hy
theorem best_fold {l : List Spot} : ∀ (one : Spot), l.foldl (fun o x => stepR o (some x)) (some one) = some (bestM (fun a b => lessW a.1 b.1) one l) := by
  induction l with
  | nil => intro one; rfl
  | cons x l ih =>
    intro one
    rw [List.foldl_cons]
    unfold bestM
    rw [← ih]
    congr 1
    simp only [stepR]
    split <;> rfl
theorem pairs_ok {ps : List R2} (hp : ∀ p ∈ ps, PtOk p) (hpw : ps.Pairwise (fun p q => p.2 < q.2)) : ∀ x ∈ ps.zip ps.tail, PtOk x.1 ∧ PtOk x.2 ∧ x.1.2 < x.2.2 := by
  rintro ⟨p, q⟩ hx
  refine ⟨hp _ (List.of_mem_zip hx).1, hp _ (List.mem_of_mem_tail (List.of_mem_zip hx).2), ?_⟩
  obtain ⟨i, hi, e⟩ := List.getElem_of_mem hx
  simp only [List.getElem_zip, List.getElem_tail, Prod.mk.injEq] at e
  obtain ⟨rfl, rfl⟩ := e
  simp at hi
  exact List.pairwise_iff_getElem.1 hpw i (i + 1) (by omega) (by omega) (by omega)
/-- The reference meets the canvas where the program does. -/
theorem meetR_eq {ps : List R2} {eye : Int} {s : R2} (hp : ∀ p ∈ ps, PtOk p) (hpw : ps.Pairwise (fun p q => p.2 < q.2)) (he : EyeOk eye) (hs : SlOk s) : meetR ps eye s = meetM ps eye s := by
  have hall := pairs_ok hp hpw
  unfold meetR meetM piecesM
  generalize ps.zip ps.tail = l at hall
  have key : ∀ (l : List (R2 × R2)) (o : Option Spot), (∀ x ∈ l, PtOk x.1 ∧ PtOk x.2 ∧ x.1.2 < x.2.2) → (∀ y, o = some y → SpotOk y) →
      l.foldl (fun o x => stepR o (pieceR x.1 x.2 eye s)) o = (l.flatMap fun x => crossM x.1 x.2 eye s).foldl (fun o x => stepR o (some x)) o := by
    intro l
    induction l with
    | nil => intros; rfl
    | cons x l ih =>
      intro o hl ho
      obtain ⟨h1, h2, h3⟩ := hl x (List.mem_cons_self ..)
      rw [List.foldl_cons, List.flatMap_cons, List.foldl_append, foldl_cross h1 h2 he hs h3 ho]
      exact ih _ (fun y hy => hl y (List.mem_cons_of_mem _ hy)) (stepR_ok ho (spotR_ok h1 h2 he hs h3))
  rw [key l none hall (by simp)]
  cases h : (l.flatMap fun x => crossM x.1 x.2 eye s) with
  | nil => rfl
  | cons x r => exact best_fold x
theorem meetR_bk {B : Bk} {eye : Int} {s : R2} (hz : bookBar B = 0) (he : EyeOk eye) (hs : SlOk s) : meetR B.prof eye s = meetM B.prof eye s := meetR_eq (bounds_of_bar hz).2.2.1 (prof_pw hz) he hs
theorem accR_ok {B : Bk} {eye : Int} {s : R2} (hz : bookBar B = 0) (he : EyeOk eye) (hs : SlOk s) (j : Nat) : ∀ y, accR B.prof eye s j = some y → SpotOk y := by
  have hall := pairs_ok (bounds_of_bar hz).2.2.1 (prof_pw hz)
  unfold accR
  have key : ∀ (l : List (R2 × R2)) (o : Option Spot), (∀ x ∈ l, PtOk x.1 ∧ PtOk x.2 ∧ x.1.2 < x.2.2) → (∀ y, o = some y → SpotOk y) →
      ∀ y, l.foldl (fun o x => stepR o (pieceR x.1 x.2 eye s)) o = some y → SpotOk y := by
    intro l
    induction l with
    | nil => intro o _ ho; exact ho
    | cons x l ih =>
      intro o hl ho
      obtain ⟨h1, h2, h3⟩ := hl x (List.mem_cons_self ..)
      exact ih _ (fun y hy => hl y (List.mem_cons_of_mem _ hy)) (stepR_ok ho (spotR_ok h1 h2 he hs h3))
  exact key _ none (fun x hx => hall x (List.mem_of_mem_take hx)) (by simp)
theorem accR_succ {ps : List R2} {eye : Int} {s : R2} {j : Nat} (h : j + 1 < ps.length) : accR ps eye s (j + 1) = stepR (accR ps eye s j) (pieceR ps[j] ps[j + 1] eye s) := by
  unfold accR
  rw [List.take_add_one, List.foldl_append]
  have : (ps.zip ps.tail)[j]? = some (ps[j], ps[j + 1]) := by
    rw [List.getElem?_eq_getElem (by simp; omega), List.getElem_zip, List.getElem_tail]
  rw [this]
  rfl
theorem accR_all {ps : List R2} {eye : Int} {s : R2} {j : Nat} (h : ps.length ≤ j + 1) : accR ps eye s j = meetR ps eye s := by
  unfold accR meetR
  rw [List.take_of_length_le (by simp; omega)]
end Go.Gx
end

section
set_option linter.unusedSimpArgs false
set_option linter.unusedVariables false
namespace Go.Gx
open Go Go.Conc Go.Proofs
variable {main : Bool}

set_option maxRecDepth 100000 in
set_option maxHeartbeats 4000000 in
/-- onPiece (ref02) -/
theorem s155 (L : Lg Tryz.prog main) (H : Facts) {p q : R2} {eye : Int} {s : R2} (hp : PtOk p) (hq : PtOk q) (he : EyeOk eye) (hs : SlOk s) :
    Pure L 155 #[rV p, rV q, .int .i64 eye, rV s] H (.tuple #[rV ((pieceR p q eye s).getD ((0, 0), (0, 0))).1, rV ((pieceR p q eye s).getD ((0, 0), (0, 0))).2, .bool (pieceR p q eye s).isSome]) := by
  refine Spec.enter Tryz.func155 rfl (by simp [Tryz.f155]) fun c cs hc => ?_
  unfold PtOk at hp hq
  unfold EyeOk at he
  unfold SlOk at hs
  have b1 := mul_bd (a := s.2) (b := q.2 - p.2) (A := 10000) (B := 90) (by omega) (by omega)
  have b2 := mul_bd (a := s.1) (b := q.1 - p.1) (A := 10000) (B := 60) (by omega) (by omega)
  have b3 := mul_bd (a := eye) (b := s.2) (A := 90) (B := 10000) (by omega) (by omega)
  have b4 := mul_bd (a := s.1) (b := p.1) (A := 10000) (B := 60) (by omega) (by omega)
  have b5 := mul_bd (a := s.2) (b := p.2) (A := 10000) (B := 90) (by omega) (by omega)
  have hd : (pdR p q s).natAbs ≤ 1500000 := by unfold pdR; omega
  have hn : (pnR p eye s).natAbs ≤ 2400000 := by unfold pnR; omega
  have e1 : s.2 * (q.2 - p.2) - s.1 * (q.1 - p.1) = pdR p q s := rfl
  have e2 : eye * s.2 + s.1 * p.1 - s.2 * p.2 = pnR p eye s := rfl
  have m1 : Mid 1 := by omega
  refine At.seq (At.region ?_); refine At.bx rfl rfl rfl rfl rfl rfl rfl fun r4 => ?_; refine At.bx rfl rfl rfl rfl rfl rfl rfl fun r5 => ?_; refine At.bx rfl rfl rfl rfl rfl rfl rfl fun r7 => ?_; refine At.al rfl rfl rfl rfl rfl fun r8 => ?_; refine At.al rfl rfl rfl rfl rfl fun r9 => ?_; refine At.v rfl rfl rfl rfl rfl trivial ?_; refine At.regionEnd (At.seq ?_); refine At.drawJ hmix [] rfl ?_; refine Pool.fa 0 0 rfl rfl rfl rfl rfl rfl rfl rfl rfl ?_
  refine Pool.ld 3 1 rfl rfl rfl rfl rfl rfl rfl rfl rfl rfl rfl ?_; refine Pool.fa 0 2 rfl rfl rfl rfl rfl rfl rfl rfl rfl ?_; refine Pool.ld 4 3 rfl rfl rfl rfl rfl rfl rfl rfl rfl rfl rfl ?_; refine Pool.v 4 rfl rfl rfl rfl rfl rfl rfl (by omega) ?_; refine Pool.fa 1 5 rfl rfl rfl rfl rfl rfl rfl rfl rfl ?_; refine Pool.ld 3 6 rfl rfl rfl rfl rfl rfl rfl rfl rfl rfl rfl ?_; refine Pool.fa 1 7 rfl rfl rfl rfl rfl rfl rfl rfl rfl ?_; refine Pool.ld 4 8 rfl rfl rfl rfl rfl rfl rfl rfl rfl rfl rfl ?_
  refine Pool.v 9 rfl rfl rfl rfl rfl rfl rfl (by omega) ?_; refine Pool.v 10 rfl rfl rfl rfl rfl rfl rfl trivial ?_; refine Pool.v 11 rfl rfl rfl rfl rfl rfl rfl trivial ?_; refine pool_done rfl rfl ?_; refine At.regionEnd (At.seq (At.region ?_)); refine At.fa 1 rfl rfl rfl rfl rfl rfl rfl ?_; refine At.ld 2 rfl rfl rfl rfl rfl rfl rfl rfl rfl ?_; refine At.v rfl rfl rfl rfl rfl trivial ?_; refine At.v rfl rfl rfl rfl rfl (by omega) ?_; refine At.fa 0 rfl rfl rfl rfl rfl rfl rfl ?_
  refine At.ld 2 rfl rfl rfl rfl rfl rfl rfl rfl rfl ?_; refine At.v rfl rfl rfl rfl rfl trivial ?_; (iterate 2 refine At.v rfl rfl rfl rfl rfl (by omega) ?_); refine At.v rfl rfl rfl rfl rfl trivial ?_; refine At.regionEnd (At.seq (At.region ?_)); refine At.v rfl rfl rfl rfl rfl trivial ?_; refine At.fa 1 rfl rfl rfl rfl rfl rfl rfl ?_; refine At.ld 2 rfl rfl rfl rfl rfl rfl rfl rfl rfl ?_; refine At.v rfl rfl rfl rfl rfl (by omega) ?_; refine At.fa 0 rfl rfl rfl rfl rfl rfl rfl ?_
  refine At.ld 2 rfl rfl rfl rfl rfl rfl rfl rfl rfl ?_; refine At.fa 0 rfl rfl rfl rfl rfl rfl rfl ?_; refine At.ld 4 rfl rfl rfl rfl rfl rfl rfl rfl rfl ?_; (iterate 2 refine At.v rfl rfl rfl rfl rfl (by omega) ?_); refine At.fa 1 rfl rfl rfl rfl rfl rfl rfl ?_; refine At.ld 2 rfl rfl rfl rfl rfl rfl rfl rfl rfl ?_; refine At.fa 1 rfl rfl rfl rfl rfl rfl rfl ?_; refine At.ld 4 rfl rfl rfl rfl rfl rfl rfl rfl rfl ?_; (iterate 2 refine At.v rfl rfl rfl rfl rfl (by omega) ?_)
  refine At.v rfl rfl rfl rfl rfl trivial ?_; refine At.regionEnd (At.seq (At.seq (At.region ?_))); refine At.v rfl rfl rfl rfl rfl trivial ?_; refine At.cp rfl rfl rfl rfl rfl fun b51 h51 => ?_; refine At.v rfl rfl rfl rfl rfl trivial ?_
  rw [e1, e2]
  rw [e1] at h51
  unfold pieceR at hc
  clear e1 e2
  generalize pdR p q s = d at *
  generalize pnR p eye s = n at *
  clear b1 b2 b3 b4 b5
  have c1 := mul_bd (a := p.1) (b := d) (A := 60) (B := 1500000) (by omega) hd
  have c2 := mul_bd (a := p.2) (b := d) (A := 90) (B := 1500000) (by omega) hd
  have c3 := mul_bd (a := q.1 - p.1) (b := n) (A := 60) (B := 2400000) (by omega) hn
  have c4 := mul_bd (a := q.2 - p.2) (b := n) (A := 90) (B := 2400000) (by omega) hn
  cases b51
  · have g0 : ¬ (d = 0 ∧ n = 0) := by simp at h51; omega
    simp only [if_neg g0] at hc
    (iterate 2 refine At.un rfl rfl rfl rfl ?_); refine At.v rfl rfl rfl rfl rfl trivial ?_; refine At.regionEnd ?_; refine At.cond rfl ?_; refine At.skip (At.seq (At.seq (At.region ?_))); refine At.v rfl rfl rfl rfl rfl trivial ?_; refine At.cp rfl rfl rfl rfl rfl fun b74 h74 => ?_; refine At.regionEnd ?_
    cases b74
    · have g1 : ¬ d < 0 := by simpa using h74
      simp only [if_neg g1] at hc
      refine At.cond rfl ?_; refine At.skip (At.seq (At.seq (At.region ?_))); refine At.v rfl rfl rfl rfl rfl trivial ?_; refine At.cp rfl rfl rfl rfl rfl fun b80 h80 => ?_; refine At.v rfl rfl rfl rfl rfl trivial ?_
      cases b80
      · have d1 : d ≠ 0 := by simpa using h80
        refine At.v rfl rfl rfl rfl rfl trivial ?_; refine At.cp rfl rfl rfl rfl rfl fun b83 h83 => ?_; (iterate 2 refine At.v rfl rfl rfl rfl rfl trivial ?_)
        cases b83
        · have n1 : ¬ n < 0 := by simpa using h83
          (iterate 2 refine At.v rfl rfl rfl rfl rfl trivial ?_); refine At.cp rfl rfl rfl rfl rfl fun b88 h88 => ?_; refine At.v rfl rfl rfl rfl rfl trivial ?_; refine At.regionEnd ?_
          cases b88
          · have g2 : ¬ (d = 0 ∨ n < 0 ∨ d < n) := by simp at h88; omega
            simp only [if_neg g2] at hc
            refine At.cond rfl ?_; refine At.skip (At.seq ?_); refine At.drawJ hmix [1, 0] rfl ?_; refine Pool.fa 0 0 rfl rfl rfl rfl rfl rfl rfl rfl rfl ?_; refine Pool.ld 2 1 rfl rfl rfl rfl rfl rfl rfl rfl rfl rfl rfl ?_; refine Pool.v 2 rfl rfl rfl rfl rfl rfl rfl trivial ?_; refine Pool.v 3 rfl rfl rfl rfl rfl rfl rfl (by omega) ?_; refine Pool.v 4 rfl rfl rfl rfl rfl rfl rfl trivial ?_; refine Pool.v 5 rfl rfl rfl rfl rfl rfl rfl trivial ?_; refine Pool.v 6 rfl rfl rfl rfl rfl rfl rfl (by omega) ?_
            refine Pool.v 7 rfl rfl rfl rfl rfl rfl rfl (by omega) ?_; refine Pool.v 8 rfl rfl rfl rfl rfl rfl rfl trivial ?_; refine Pool.cq 9 rfl rfl rfl rfl rfl rfl rfl rfl rfl (fun H hs => s46 L H bs bs bs) ?_; refine Pool.fa 1 10 rfl rfl rfl rfl rfl rfl rfl rfl rfl ?_; refine Pool.ld 2 11 rfl rfl rfl rfl rfl rfl rfl rfl rfl rfl rfl ?_; refine Pool.v 12 rfl rfl rfl rfl rfl rfl rfl trivial ?_; refine Pool.v 13 rfl rfl rfl rfl rfl rfl rfl (by omega) ?_
            refine Pool.v 14 rfl rfl rfl rfl rfl rfl rfl trivial ?_; refine Pool.v 15 rfl rfl rfl rfl rfl rfl rfl trivial ?_; refine Pool.v 16 rfl rfl rfl rfl rfl rfl rfl (by omega) ?_; refine Pool.v 17 rfl rfl rfl rfl rfl rfl rfl (by omega) ?_; refine Pool.v 18 rfl rfl rfl rfl rfl rfl rfl trivial ?_; refine Pool.cq 19 rfl rfl rfl rfl rfl rfl rfl rfl rfl (fun H hs => s46 L H bs bs bs) ?_; refine Pool.st 1 20 rfl rfl rfl rfl rfl rfl rfl rfl rfl rfl rfl rfl rfl rfl rfl rfl rfl rfl sb ?_
            refine Pool.st 0 21 rfl rfl rfl rfl rfl rfl rfl rfl rfl rfl rfl rfl rfl rfl rfl rfl rfl rfl sb ?_; refine Pool.v 22 rfl rfl rfl rfl rfl rfl rfl trivial ?_; refine pool_done rfl rfl ?_; refine At.regionEnd ?_
            exact At.ret Tryz.func155 (.inr ⟨_, rfl⟩) rfl (.aggJ 1 rfl rfl rfl (.aggJ 0 rfl rfl rfl (.tmp rfl .nil))) (wk (hc _ _ (⟨by rfl, rfl⟩)))
          · have g2 : (d = 0 ∨ n < 0 ∨ d < n) := by simp at h88; omega
            simp only [if_pos g2] at hc
            refine At.cond rfl ?_; refine At.seq (At.region ?_); (iterate 2 refine At.q rfl rfl rfl rfl (q_build rfl rfl rfl) ?_); refine At.st 1 rfl rfl rfl rfl rfl rfl rfl rfl rfl rfl rfl rfl ?_; refine At.st 0 rfl rfl rfl rfl rfl rfl rfl rfl rfl rfl rfl rfl ?_; refine At.v rfl rfl rfl rfl rfl trivial ?_; refine At.regionEnd ?_
            exact At.ret Tryz.func155 (.inr ⟨_, rfl⟩) rfl (.aggJ 1 rfl rfl rfl (.aggJ 0 rfl rfl rfl (.tmp rfl .nil))) (wk (hc _ _ (⟨by rfl, rfl⟩)))
        · have g2 : (d = 0 ∨ n < 0 ∨ d < n) := by simp at h83; omega
          simp only [if_pos g2] at hc
          (iterate 3 refine At.un rfl rfl rfl rfl ?_); refine At.v rfl rfl rfl rfl rfl trivial ?_; refine At.regionEnd ?_; refine At.cond rfl ?_; refine At.seq (At.region ?_); (iterate 2 refine At.q rfl rfl rfl rfl (q_build rfl rfl rfl) ?_); refine At.st 1 rfl rfl rfl rfl rfl rfl rfl rfl rfl rfl rfl rfl ?_; refine At.st 0 rfl rfl rfl rfl rfl rfl rfl rfl rfl rfl rfl rfl ?_; refine At.v rfl rfl rfl rfl rfl trivial ?_; refine At.regionEnd ?_
          exact At.ret Tryz.func155 (.inr ⟨_, rfl⟩) rfl (.aggJ 1 rfl rfl rfl (.aggJ 0 rfl rfl rfl (.tmp rfl .nil))) (wk (hc _ _ (⟨by rfl, rfl⟩)))
      · have d1 : d = 0 := by simpa using h80
        have g2 : (d = 0 ∨ n < 0 ∨ d < n) := .inl d1
        simp only [if_pos g2] at hc
        (iterate 2 refine At.un rfl rfl rfl rfl ?_); (iterate 2 refine At.v rfl rfl rfl rfl rfl trivial ?_); (iterate 3 refine At.un rfl rfl rfl rfl ?_); refine At.v rfl rfl rfl rfl rfl trivial ?_; refine At.regionEnd ?_; refine At.cond rfl ?_; refine At.seq (At.region ?_); (iterate 2 refine At.q rfl rfl rfl rfl (q_build rfl rfl rfl) ?_); refine At.st 1 rfl rfl rfl rfl rfl rfl rfl rfl rfl rfl rfl rfl ?_; refine At.st 0 rfl rfl rfl rfl rfl rfl rfl rfl rfl rfl rfl rfl ?_
        refine At.v rfl rfl rfl rfl rfl trivial ?_; refine At.regionEnd ?_
        exact At.ret Tryz.func155 (.inr ⟨_, rfl⟩) rfl (.aggJ 1 rfl rfl rfl (.aggJ 0 rfl rfl rfl (.tmp rfl .nil))) (wk (hc _ _ (⟨by rfl, rfl⟩)))
    · have g1 : d < 0 := by simpa using h74
      simp only [if_pos g1] at hc
      have c5 : (p.1 * -d).natAbs ≤ 60 * 1500000 := by rw [Int.mul_neg, Int.natAbs_neg]; exact c1
      have c6 : (p.2 * -d).natAbs ≤ 90 * 1500000 := by rw [Int.mul_neg, Int.natAbs_neg]; exact c2
      have c7 : ((q.1 - p.1) * -n).natAbs ≤ 60 * 2400000 := by rw [Int.mul_neg, Int.natAbs_neg]; exact c3
      have c8 : ((q.2 - p.2) * -n).natAbs ≤ 90 * 2400000 := by rw [Int.mul_neg, Int.natAbs_neg]; exact c4
      refine At.cond rfl ?_; refine At.region ?_; refine At.v rfl rfl rfl rfl rfl trivial ?_; refine At.v rfl rfl rfl rfl rfl (by omega) ?_; refine At.v rfl rfl rfl rfl rfl trivial ?_; refine At.v rfl rfl rfl rfl rfl (by omega) ?_; (iterate 2 refine At.v rfl rfl rfl rfl rfl trivial ?_); refine At.regionEnd (At.seq (At.seq (At.region ?_))); refine At.v rfl rfl rfl rfl rfl trivial ?_; refine At.cp rfl rfl rfl rfl rfl fun b80 h80 => ?_; refine At.v rfl rfl rfl rfl rfl trivial ?_
      cases b80
      · have d1 : -d ≠ 0 := by simpa using h80
        refine At.v rfl rfl rfl rfl rfl trivial ?_; refine At.cp rfl rfl rfl rfl rfl fun b83 h83 => ?_; (iterate 2 refine At.v rfl rfl rfl rfl rfl trivial ?_)
        cases b83
        · have n1 : ¬ -n < 0 := by simpa using h83
          (iterate 2 refine At.v rfl rfl rfl rfl rfl trivial ?_); refine At.cp rfl rfl rfl rfl rfl fun b88 h88 => ?_; refine At.v rfl rfl rfl rfl rfl trivial ?_; refine At.regionEnd ?_
          cases b88
          · have g2 : ¬ (-n < 0 ∨ -d < -n) := by simp at h88; omega
            simp only [if_neg g2] at hc
            refine At.cond rfl ?_; refine At.skip (At.seq ?_); refine At.drawJ hmix [1, 0] rfl ?_; refine Pool.fa 0 0 rfl rfl rfl rfl rfl rfl rfl rfl rfl ?_; refine Pool.ld 2 1 rfl rfl rfl rfl rfl rfl rfl rfl rfl rfl rfl ?_; refine Pool.v 2 rfl rfl rfl rfl rfl rfl rfl trivial ?_; refine Pool.v 3 rfl rfl rfl rfl rfl rfl rfl (by omega) ?_; refine Pool.v 4 rfl rfl rfl rfl rfl rfl rfl trivial ?_; refine Pool.v 5 rfl rfl rfl rfl rfl rfl rfl trivial ?_; refine Pool.v 6 rfl rfl rfl rfl rfl rfl rfl (by omega) ?_
            refine Pool.v 7 rfl rfl rfl rfl rfl rfl rfl (by omega) ?_; refine Pool.v 8 rfl rfl rfl rfl rfl rfl rfl trivial ?_; refine Pool.cq 9 rfl rfl rfl rfl rfl rfl rfl rfl rfl (fun H hs => s46 L H bs bs bs) ?_; refine Pool.fa 1 10 rfl rfl rfl rfl rfl rfl rfl rfl rfl ?_; refine Pool.ld 2 11 rfl rfl rfl rfl rfl rfl rfl rfl rfl rfl rfl ?_; refine Pool.v 12 rfl rfl rfl rfl rfl rfl rfl trivial ?_; refine Pool.v 13 rfl rfl rfl rfl rfl rfl rfl (by omega) ?_
            refine Pool.v 14 rfl rfl rfl rfl rfl rfl rfl trivial ?_; refine Pool.v 15 rfl rfl rfl rfl rfl rfl rfl trivial ?_; refine Pool.v 16 rfl rfl rfl rfl rfl rfl rfl (by omega) ?_; refine Pool.v 17 rfl rfl rfl rfl rfl rfl rfl (by omega) ?_; refine Pool.v 18 rfl rfl rfl rfl rfl rfl rfl trivial ?_; refine Pool.cq 19 rfl rfl rfl rfl rfl rfl rfl rfl rfl (fun H hs => s46 L H bs bs bs) ?_; refine Pool.st 1 20 rfl rfl rfl rfl rfl rfl rfl rfl rfl rfl rfl rfl rfl rfl rfl rfl rfl rfl sb ?_
            refine Pool.st 0 21 rfl rfl rfl rfl rfl rfl rfl rfl rfl rfl rfl rfl rfl rfl rfl rfl rfl rfl sb ?_; refine Pool.v 22 rfl rfl rfl rfl rfl rfl rfl trivial ?_; refine pool_done rfl rfl ?_; refine At.regionEnd ?_
            exact At.ret Tryz.func155 (.inr ⟨_, rfl⟩) rfl (.aggJ 1 rfl rfl rfl (.aggJ 0 rfl rfl rfl (.tmp rfl .nil))) (wk (hc _ _ (⟨by rfl, rfl⟩)))
          · have g2 : (-n < 0 ∨ -d < -n) := by simp at h88; omega
            simp only [if_pos g2] at hc
            refine At.cond rfl ?_; refine At.seq (At.region ?_); (iterate 2 refine At.q rfl rfl rfl rfl (q_build rfl rfl rfl) ?_); refine At.st 1 rfl rfl rfl rfl rfl rfl rfl rfl rfl rfl rfl rfl ?_; refine At.st 0 rfl rfl rfl rfl rfl rfl rfl rfl rfl rfl rfl rfl ?_; refine At.v rfl rfl rfl rfl rfl trivial ?_; refine At.regionEnd ?_
            exact At.ret Tryz.func155 (.inr ⟨_, rfl⟩) rfl (.aggJ 1 rfl rfl rfl (.aggJ 0 rfl rfl rfl (.tmp rfl .nil))) (wk (hc _ _ (⟨by rfl, rfl⟩)))
        · have g2 : (-n < 0 ∨ -d < -n) := by simp at h83; omega
          simp only [if_pos g2] at hc
          (iterate 3 refine At.un rfl rfl rfl rfl ?_); refine At.v rfl rfl rfl rfl rfl trivial ?_; refine At.regionEnd ?_; refine At.cond rfl ?_; refine At.seq (At.region ?_); (iterate 2 refine At.q rfl rfl rfl rfl (q_build rfl rfl rfl) ?_); refine At.st 1 rfl rfl rfl rfl rfl rfl rfl rfl rfl rfl rfl rfl ?_; refine At.st 0 rfl rfl rfl rfl rfl rfl rfl rfl rfl rfl rfl rfl ?_; refine At.v rfl rfl rfl rfl rfl trivial ?_; refine At.regionEnd ?_
          exact At.ret Tryz.func155 (.inr ⟨_, rfl⟩) rfl (.aggJ 1 rfl rfl rfl (.aggJ 0 rfl rfl rfl (.tmp rfl .nil))) (wk (hc _ _ (⟨by rfl, rfl⟩)))
      · have d1 : -d = 0 := by simpa using h80
        omega
  · have d1 : d = 0 := by simpa using h51
    refine At.v rfl rfl rfl rfl rfl trivial ?_; refine At.cp rfl rfl rfl rfl rfl fun b54 h54 => ?_; refine At.v rfl rfl rfl rfl rfl trivial ?_; refine At.regionEnd ?_
    cases b54
    · have n1 : n ≠ 0 := by simpa using h54
      have g0 : ¬ (d = 0 ∧ n = 0) := by omega
      have g1 : ¬ d < 0 := by omega
      have g2 : d = 0 ∨ n < 0 ∨ d < n := by omega
      simp only [if_neg g0, if_neg g1, if_pos g2] at hc
      refine At.cond rfl ?_; refine At.skip (At.seq (At.seq (At.region ?_))); refine At.v rfl rfl rfl rfl rfl trivial ?_; refine At.cp rfl rfl rfl rfl rfl fun b74 h74 => ?_; refine At.regionEnd ?_
      have e74 : b74 = false := by rw [← h74]; simp; omega
      subst e74
      refine At.cond rfl ?_; refine At.skip (At.seq (At.seq (At.region ?_))); refine At.v rfl rfl rfl rfl rfl trivial ?_; refine At.cp rfl rfl rfl rfl rfl fun b80 h80 => ?_; refine At.v rfl rfl rfl rfl rfl trivial ?_
      have e80 : b80 = true := by rw [← h80]; simp; omega
      subst e80
      (iterate 2 refine At.un rfl rfl rfl rfl ?_); (iterate 2 refine At.v rfl rfl rfl rfl rfl trivial ?_); (iterate 3 refine At.un rfl rfl rfl rfl ?_); refine At.v rfl rfl rfl rfl rfl trivial ?_; refine At.regionEnd ?_; refine At.cond rfl ?_; refine At.seq (At.region ?_); (iterate 2 refine At.q rfl rfl rfl rfl (q_build rfl rfl rfl) ?_); refine At.st 1 rfl rfl rfl rfl rfl rfl rfl rfl rfl rfl rfl rfl ?_; refine At.st 0 rfl rfl rfl rfl rfl rfl rfl rfl rfl rfl rfl rfl ?_
      refine At.v rfl rfl rfl rfl rfl trivial ?_; refine At.regionEnd ?_
      exact At.ret Tryz.func155 (.inr ⟨_, rfl⟩) rfl (.aggJ 1 rfl rfl rfl (.aggJ 0 rfl rfl rfl (.tmp rfl .nil))) (wk (hc _ _ (⟨by rfl, rfl⟩)))
    · have g0 : d = 0 ∧ n = 0 := ⟨d1, by simpa using h54⟩
      simp only [if_pos g0] at hc
      refine At.cond rfl ?_; refine At.seq (At.seq (At.region ?_)); refine At.fa 0 rfl rfl rfl rfl rfl rfl rfl ?_; refine At.ld 4 rfl rfl rfl rfl rfl rfl rfl rfl rfl ?_; refine At.fa 0 rfl rfl rfl rfl rfl rfl rfl ?_; refine At.ld 3 rfl rfl rfl rfl rfl rfl rfl rfl rfl ?_; refine At.cp rfl rfl rfl rfl rfl fun b60 h60 => ?_; refine At.regionEnd ?_
      cases b60
      · have g1 : ¬ p.1 ≤ q.1 := by simpa using h60
        simp only [if_neg g1] at hc
        refine At.cond rfl ?_; refine At.skip (At.seq ?_); refine At.drawJ hmix [1, 0] rfl ?_; refine Pool.fa 0 0 rfl rfl rfl rfl rfl rfl rfl rfl rfl ?_; refine Pool.ld 1 1 rfl rfl rfl rfl rfl rfl rfl rfl rfl rfl rfl ?_; refine Pool.cq 2 rfl rfl rfl rfl rfl rfl rfl rfl rfl (fun H hs => s46 L H bs bs bs) ?_; refine Pool.fa 1 3 rfl rfl rfl rfl rfl rfl rfl rfl rfl ?_; refine Pool.ld 1 4 rfl rfl rfl rfl rfl rfl rfl rfl rfl rfl rfl ?_
        refine Pool.cq 5 rfl rfl rfl rfl rfl rfl rfl rfl rfl (fun H hs => s46 L H bs bs bs) ?_; refine Pool.st 1 6 rfl rfl rfl rfl rfl rfl rfl rfl rfl rfl rfl rfl rfl rfl rfl rfl rfl rfl sb ?_; refine Pool.st 0 7 rfl rfl rfl rfl rfl rfl rfl rfl rfl rfl rfl rfl rfl rfl rfl rfl rfl rfl sb ?_; refine Pool.v 8 rfl rfl rfl rfl rfl rfl rfl trivial ?_; refine pool_done rfl rfl ?_; refine At.regionEnd ?_
        exact At.ret Tryz.func155 (.inr ⟨_, rfl⟩) rfl (.aggJ 1 rfl rfl rfl (.aggJ 0 rfl rfl rfl (.tmp rfl .nil))) (wk (hc _ _ (⟨by rfl, rfl⟩)))
      · have g1 : p.1 ≤ q.1 := by simpa using h60
        simp only [if_pos g1] at hc
        refine At.cond rfl ?_; refine At.seq ?_; refine At.drawJ hmix [1, 0] rfl ?_; refine Pool.fa 0 0 rfl rfl rfl rfl rfl rfl rfl rfl rfl ?_; refine Pool.ld 2 1 rfl rfl rfl rfl rfl rfl rfl rfl rfl rfl rfl ?_; refine Pool.cq 2 rfl rfl rfl rfl rfl rfl rfl rfl rfl (fun H hs => s46 L H bs bs bs) ?_; refine Pool.fa 1 3 rfl rfl rfl rfl rfl rfl rfl rfl rfl ?_; refine Pool.ld 2 4 rfl rfl rfl rfl rfl rfl rfl rfl rfl rfl rfl ?_
        refine Pool.cq 5 rfl rfl rfl rfl rfl rfl rfl rfl rfl (fun H hs => s46 L H bs bs bs) ?_; refine Pool.st 1 6 rfl rfl rfl rfl rfl rfl rfl rfl rfl rfl rfl rfl rfl rfl rfl rfl rfl rfl sb ?_; refine Pool.st 0 7 rfl rfl rfl rfl rfl rfl rfl rfl rfl rfl rfl rfl rfl rfl rfl rfl rfl rfl sb ?_; refine Pool.v 8 rfl rfl rfl rfl rfl rfl rfl trivial ?_; refine pool_done rfl rfl ?_; refine At.regionEnd ?_
        exact At.ret Tryz.func155 (.inr ⟨_, rfl⟩) rfl (.aggJ 1 rfl rfl rfl (.aggJ 0 rfl rfl rfl (.tmp rfl .nil))) (wk (hc _ _ (⟨by rfl, rfl⟩)))
end Go.Gx
end

section
set_option linter.unusedSimpArgs false
set_option linter.unusedVariables false
namespace Go.Gx
open Go Go.Conc Go.Proofs
variable {main : Bool}

set_option maxRecDepth 100000 in
set_option maxHeartbeats 4000000 in
/-- MeetOf (ref02) -/
theorem s95 (L : Lg Tryz.prog main) (H : Facts) {B : Bk} {A : BkA} {eye : Int} {s : R2} (hB : BkR H B A) (hz : bookBar B = 0) (he : EyeOk eye) (hs : SlOk s) :
    Pure L 95 #[bkV B A, .int .i64 eye, rV s] H (.tuple #[rV ((meetM B.prof eye s).getD ((0, 0), (0, 0))).1, rV ((meetM B.prof eye s).getD ((0, 0), (0, 0))).2, .bool (meetM B.prof eye s).isSome]) := by
  refine Spec.enter Tryz.func95 rfl (by simp [Tryz.f95]) fun c cs hc => ?_
  rw [← meetR_bk hz he hs] at hc
  have hok := accR_ok (s := s) hz he hs
  have hpt := (bounds_of_bar hz).2.2.1
  have hl5 := (bounds_of_bar hz).2.1
  have hl2 := (bounds_of_bar hz).1
  have hrp := hB.p
  obtain ⟨prof, size, lo, hi, marks⟩ := B
  obtain ⟨pa, pc, ma, mc⟩ := A
  simp only at hrp hpt hl5 hl2 hc hok
  refine At.seq (At.region ?_); refine At.bx rfl rfl rfl rfl rfl rfl rfl fun r3 => ?_; refine At.bx rfl rfl rfl rfl rfl rfl rfl fun r5 => ?_; refine At.al rfl rfl rfl rfl rfl fun r6 => ?_; refine At.al rfl rfl rfl rfl rfl fun r7 => ?_; refine At.v rfl rfl rfl rfl rfl trivial ?_; refine At.regionEnd (At.seq (At.region ?_)); refine At.al rfl rfl rfl rfl rfl fun r9 => ?_; refine At.al rfl rfl rfl rfl rfl fun r10 => ?_; refine At.regionEnd (At.seq (At.region ?_))
  refine At.v rfl rfl rfl rfl rfl trivial ?_; refine At.regionEnd (At.seq (At.seq (At.region ?_))); refine At.v rfl rfl rfl rfl rfl trivial ?_; refine At.regionEnd ?_; refine At.block ?_
  refine At.lpk (X := { j : Nat // j ≤ prof.length - 1 }) [1, 3, 5, 6, 7, 8, 9, 10] (fun x => [(12, .int .i64 (x.1 : Int)), (11, .bool (accR prof eye s x.1).isSome)]) (fun x => .own r10 (.cells (List.toArray (c2 ((accR prof eye s x.1).getD ((0, 0), (0, 0))).2)) 29 (0, 0)) :: .own r9 (.cells (List.toArray (c2 ((accR prof eye s x.1).getD ((0, 0), (0, 0))).1)) 29 (0, 0)) :: .own r7 (.cells #[.int .i64 0, .int .i64 0] 29 (0, 0)) :: .own r6 (.cells #[.int .i64 0, .int .i64 0] 29 (0, 0)) :: .own r5 (.cells (List.toArray (c2 s)) 29 (0, 0)) :: .own r3 (.cells (List.toArray (bkC ⟨prof, size, lo, hi, marks⟩ ⟨pa, pc, ma, mc⟩)) 27 (0, 0)) :: H) (fun x => prof.length - 1 - x.1) (⟨0, Nat.zero_le _⟩) rfl ?_ (by repeat (first | exact trivial | refine ⟨rfl, ?_⟩)) sb
  rintro ⟨j, hj⟩ again
  simp only at again ⊢
  refine At.seq (At.seq (At.region ?_)); refine At.v rfl rfl rfl rfl rfl trivial ?_; refine At.v rfl rfl rfl rfl rfl (by omega) ?_; refine At.fa 0 rfl rfl rfl rfl rfl rfl rfl ?_; refine At.ld 5 rfl rfl rfl rfl rfl rfl rfl rfl rfl ?_; refine At.ln rfl rfl rfl rfl rfl rfl rfl rfl ?_; refine At.cp rfl rfl rfl rfl rfl fun b21 h21 => ?_; refine At.regionEnd ?_
  cases b21
  · have e : j = prof.length - 1 := by simp at h21; omega
    subst e
    rw [accR_all (by omega)]
    refine At.cond rfl ?_; refine At.exit rfl ?_; refine At.seq ?_; refine At.drawJ hmix [3, 2] rfl ?_; refine Pool.ld 1 0 rfl rfl rfl rfl rfl rfl rfl rfl rfl rfl rfl ?_; refine Pool.ld 0 1 rfl rfl rfl rfl rfl rfl rfl rfl rfl rfl rfl ?_; refine Pool.v 2 rfl rfl rfl rfl rfl rfl rfl trivial ?_; refine Pool.st 3 3 rfl rfl rfl rfl rfl rfl rfl rfl rfl rfl rfl rfl rfl rfl rfl rfl rfl rfl sb ?_; refine Pool.st 2 4 rfl rfl rfl rfl rfl rfl rfl rfl rfl rfl rfl rfl rfl rfl rfl rfl rfl rfl sb ?_
    refine Pool.v 5 rfl rfl rfl rfl rfl rfl rfl trivial ?_; refine pool_done rfl rfl ?_; refine At.regionEnd ?_
    exact At.ret Tryz.func95 (.inr ⟨_, rfl⟩) rfl (.aggJ 3 rfl rfl rfl (.aggJ 2 rfl rfl rfl (.tmp rfl .nil))) (wk (hc _ _ (⟨by rfl, rfl⟩)))
  · have hlt : j + 1 < prof.length := by simp at h21; omega
    have hlt' : j < prof.length := by omega
    obtain ⟨b, off, rfl, hc0⟩ := hrp.el (List.getElem?_eq_getElem hlt')
    obtain ⟨b', off', e', hc1⟩ := hrp.el (List.getElem?_eq_getElem hlt)
    cases e'
    have p0 := hpt _ (List.getElem_mem hlt')
    have p1 := hpt _ (List.getElem_mem hlt)
    have hsc := accR_succ (eye := eye) (s := s) hlt
    refine At.cond rfl ?_; refine At.skip (At.seq ?_); refine At.block ?_; refine At.seq ?_; refine At.drawJ hmix [] rfl ?_; refine Pool.fa 0 0 rfl rfl rfl rfl rfl rfl rfl rfl rfl ?_; refine Pool.ld 5 1 rfl rfl rfl rfl rfl rfl rfl rfl rfl rfl rfl ?_; refine Pool.v 2 rfl rfl rfl rfl rfl rfl rfl trivial ?_; refine Pool.q 3 rfl rfl rfl rfl rfl (q_ia rfl rfl rfl (by assumption)) rfl ?_; refine Pool.ldc 4 rfl rfl rfl rfl rfl rfl rfl hc0.a rfl rfl rfl ?_
    refine Pool.fa 0 5 rfl rfl rfl rfl rfl rfl rfl rfl rfl ?_; refine Pool.ld 5 6 rfl rfl rfl rfl rfl rfl rfl rfl rfl rfl rfl ?_; refine Pool.v 7 rfl rfl rfl rfl rfl rfl rfl trivial ?_; refine Pool.v 8 rfl rfl rfl rfl rfl rfl rfl (by omega) ?_; refine Pool.q 9 rfl rfl rfl rfl rfl (q_ia rfl rfl rfl (by assumption)) rfl ?_; refine Pool.ldc 10 rfl rfl rfl rfl rfl rfl rfl hc1.a rfl rfl rfl ?_; refine Pool.v 11 rfl rfl rfl rfl rfl rfl rfl trivial ?_
    refine Pool.ld 4 12 rfl rfl rfl rfl rfl rfl rfl rfl rfl rfl rfl ?_; refine Pool.cq 13 rfl rfl rfl rfl rfl rfl rfl rfl rfl (fun H hs => s155 L H bs bs bs bs) ?_; refine Pool.v 14 rfl rfl rfl rfl rfl rfl rfl trivial ?_; refine Pool.v 15 rfl rfl rfl rfl rfl rfl rfl trivial ?_; refine Pool.v 16 rfl rfl rfl rfl rfl rfl rfl trivial ?_; refine Pool.v 17 rfl rfl rfl rfl rfl rfl rfl trivial ?_; refine Pool.fl 18 rfl rfl rfl rfl rfl rfl rfl rfl rfl rfl ?_
    refine Pool.al 19 rfl rfl rfl rfl rfl rfl rfl rfl rfl rfl rfl sb fun r14 => ?_; refine Pool.v 22 rfl rfl rfl rfl rfl rfl rfl trivial ?_; refine pool_take rfl rfl rfl fun rf18 => ?_; refine Pool.st 0 20 rfl rfl rfl rfl rfl rfl rfl rfl rfl rfl rfl rfl rfl rfl rfl rfl rfl rfl sb ?_; refine Pool.st 1 21 rfl rfl rfl rfl rfl rfl rfl rfl rfl rfl rfl rfl rfl rfl rfl rfl rfl rfl sb ?_; refine pool_done rfl rfl ?_; refine At.regionEnd (At.seq (At.region ?_))
    (iterate 2 refine At.v rfl rfl rfl rfl rfl trivial ?_)
    have hpo := spotR_ok p0 p1 he hs (Int.lt_of_not_ge fun h => by
      have := List.pairwise_iff_getElem.1 (prof_pw hz) j (j + 1) (by simpa using hlt') (by simpa using hlt) (by omega)
      simp only at this
      omega)
    have ag := again ⟨j + 1, by omega⟩ (by simp; omega)
    simp only [hsc] at ag
    cases hpc : pieceR prof[j] prof[j + 1] eye s with
    | none =>
      simp only [hpc, stepR] at ag
      (iterate 7 refine At.un rfl rfl rfl rfl ?_); refine At.v rfl rfl rfl rfl rfl trivial ?_; refine At.regionEnd ?_; refine At.cond rfl ?_; refine At.skip ?_; refine At.inBlock ?_; refine At.region ?_; refine At.v rfl rfl rfl rfl rfl trivial ?_; refine At.v rfl rfl rfl rfl rfl (by omega) ?_; refine At.v rfl rfl rfl rfl rfl trivial ?_; refine At.regionEnd ?_
      refine At.tA (ag)
    | some x =>
      cases hacc : accR prof eye s j with
      | none =>
        simp only [hpc, hacc, stepR, Option.isSome, Option.getD] at ag
        (iterate 3 refine At.v rfl rfl rfl rfl rfl trivial ?_); (iterate 3 refine At.un rfl rfl rfl rfl ?_); (iterate 2 refine At.v rfl rfl rfl rfl rfl trivial ?_); refine At.regionEnd ?_; refine At.cond rfl ?_; refine At.drawJ hmix [3, 2] rfl ?_; refine Pool.ld 0 0 rfl rfl rfl rfl rfl rfl rfl rfl rfl rfl rfl ?_; refine Pool.ld 1 1 rfl rfl rfl rfl rfl rfl rfl rfl rfl rfl rfl ?_; refine Pool.st 3 2 rfl rfl rfl rfl rfl rfl rfl rfl rfl rfl rfl rfl rfl rfl rfl rfl rfl rfl sb ?_
        refine Pool.st 2 3 rfl rfl rfl rfl rfl rfl rfl rfl rfl rfl rfl rfl rfl rfl rfl rfl rfl rfl sb ?_; refine Pool.v 4 rfl rfl rfl rfl rfl rfl rfl trivial ?_; refine pool_done rfl rfl ?_; refine At.regionEnd ?_; refine At.inBlock ?_; refine At.region ?_; refine At.v rfl rfl rfl rfl rfl trivial ?_; refine At.v rfl rfl rfl rfl rfl (by omega) ?_; refine At.v rfl rfl rfl rfl rfl trivial ?_; refine At.regionEnd ?_
        refine At.tA (ag)
      | some y =>
        simp only [hpc, hacc, stepR] at ag
        (iterate 3 refine At.v rfl rfl rfl rfl rfl trivial ?_); refine At.ld 0 rfl rfl rfl rfl rfl rfl rfl rfl rfl ?_; refine At.ld 3 rfl rfl rfl rfl rfl rfl rfl rfl rfl ?_; refine At.cqb rfl rfl rfl rfl rfl rfl rfl rfl (s103 L _) fun b49 h49 => ?_; (iterate 2 refine At.v rfl rfl rfl rfl rfl trivial ?_); refine At.regionEnd ?_
        cases b49
        · have e49 : lessW x.1 y.1 = false := h49
          simp only [e49, if_false, Option.isSome, Option.getD, Bool.false_eq_true] at ag
          refine At.cond rfl ?_; refine At.skip ?_; refine At.inBlock ?_; refine At.region ?_; refine At.v rfl rfl rfl rfl rfl trivial ?_; refine At.v rfl rfl rfl rfl rfl (by omega) ?_; refine At.v rfl rfl rfl rfl rfl trivial ?_; refine At.regionEnd ?_
          refine At.tA (ag)
        · have e49 : lessW x.1 y.1 = true := h49
          simp only [e49, if_true, Option.isSome, Option.getD] at ag
          refine At.cond rfl ?_; refine At.drawJ hmix [3, 2] rfl ?_; refine Pool.ld 0 0 rfl rfl rfl rfl rfl rfl rfl rfl rfl rfl rfl ?_; refine Pool.ld 1 1 rfl rfl rfl rfl rfl rfl rfl rfl rfl rfl rfl ?_; refine Pool.st 3 2 rfl rfl rfl rfl rfl rfl rfl rfl rfl rfl rfl rfl rfl rfl rfl rfl rfl rfl sb ?_; refine Pool.st 2 3 rfl rfl rfl rfl rfl rfl rfl rfl rfl rfl rfl rfl rfl rfl rfl rfl rfl rfl sb ?_; refine Pool.v 4 rfl rfl rfl rfl rfl rfl rfl trivial ?_; refine pool_done rfl rfl ?_; refine At.regionEnd ?_
          refine At.inBlock ?_; refine At.region ?_; refine At.v rfl rfl rfl rfl rfl trivial ?_; refine At.v rfl rfl rfl rfl rfl (by omega) ?_; refine At.v rfl rfl rfl rfl rfl trivial ?_; refine At.regionEnd ?_
          refine At.tA (ag)
end Go.Gx
end

section
set_option linter.unusedSimpArgs false
set_option linter.unusedVariables false
namespace Go.Gx
open Go Go.Conc Go.Proofs
variable {main : Bool}

theorem look_book {B : Bk} {rs : List Int} (h : lookBar B rs = 0) : bookBar B = 0 := by
  unfold lookBar at h
  split at h
  · exact h
  · rename_i h1; simpa using h1
theorem look_rest {B : Bk} {a b : Int} (h : lookBar B [a, b] = 0) : a = 0 ∧ b = 0 := by
  rw [lookBar0 (look_book h)] at h
  split at h
  · omega
  · exact ⟨by omega, h⟩
theorem look_eye {B : Bk} {eye b : Int} (h : lookBar B [hBar eye, b] = 0) : EyeOk eye := eyeOk_of (look_rest h).1
theorem look_slope {B : Bk} {a : Int} {s : R2} (h : lookBar B [a, slopeBar s.1 s.2] = 0) : SlOk s := slOk_of s (look_rest h).2
/-- RowOf (ref02), a book's -/
theorem s97 (L : Lg Tryz.prog main) (H : Facts) {B : Bk} {A : BkA} {h : R2} (hB : BkR H B A) (hz : bookBar B = 0) (hh : HighOk h) : Pure L 97 #[bkV B A, rV h] H (.tuple #[.int .i64 (squareM B h).1, rV (squareM B h).2]) := by
  have hb := bounds_of_bar hz
  have h0 : 0 < B.prof.length := by omega
  obtain ⟨b, off, e, hc⟩ := hB.p.el (List.getElem?_eq_getElem h0)
  obtain ⟨pa, pc, ma, mc⟩ := A
  simp only at e
  subst e
  have hp := hb.2.2.1 _ (List.getElem_mem h0)
  obtain ⟨hn, hd1, hd2⟩ := hh
  have ef : footM B = B.prof[0].2 := by
    unfold footM
    rw [List.headD_eq_head?_getD, List.head?_eq_getElem?, List.getElem?_eq_getElem h0]
    rfl
  unfold PtOk at hp
  have m1 := mul_bd (a := B.size) (b := h.2) (A := 30) (B := 3000000) (by omega) (by omega)
  have m2 := mul_bd (a := B.prof[0].2) (b := h.2) (A := 90) (B := 3000000) (by omega) (by omega)
  have m3 : B.size * h.2 ≠ 0 := Int.mul_ne_zero (by omega) (by omega)
  have m4 : ((h.1 - B.prof[0].2 * h.2).tdiv (B.size * h.2)).natAbs ≤ 800000000 := by
    rw [Int.natAbs_tdiv]
    exact Nat.le_trans (Nat.div_le_self _ _) (by omega)
  have m5 := mul_bd (a := (h.1 - B.prof[0].2 * h.2).tdiv (B.size * h.2)) (b := B.size) (A := 800000000) (B := 30) m4 (by omega)
  have m6 : ((h.1 - B.prof[0].2 * h.2).tdiv (B.size * h.2) * B.size * h.2).natAbs ≤ 800000000 * 30 * 3000000 := mul_bd m5 (by omega)
  have := r97 L H (n := B.prof.length) (cap := pc) (m := B.marks.length) (mc := mc) (ma := ma) (size := B.size) (lo := B.lo) (hi := B.hi) (hn := h.1) (hd := h.2) (h0 := B.prof[0].2) h0 (cells_sub hc 1 1 rfl) (by omega) (by omega) (by omega) m3 (by omega) (by omega)
  unfold squareM
  rw [ef]
  exact this
set_option maxRecDepth 100000 in
set_option maxHeartbeats 4000000 in
/-- looked (ref02) -/
theorem s94 (L : Lg Tryz.prog main) (H : Facts) {B : Bk} {A : BkA} {eye : Int} {s : R2} (hB : BkR H B A) (hl : B.prof.length ≤ 100000) (hm : B.marks.length ≤ 100000) :
    Pure L 94 #[bkV B A, .int .i64 eye, rV s] H (.int .i64 (lookBar B [hBar eye, slopeBar s.1 s.2])) := by
  refine Spec.enter Tryz.func94 rfl (by simp [Tryz.f94]) fun c cs hc => ?_; refine At.seq (At.region ?_); refine At.bx rfl rfl rfl rfl rfl rfl rfl fun r3 => ?_; refine At.bx rfl rfl rfl rfl rfl rfl rfl fun r5 => ?_; refine At.v rfl rfl rfl rfl rfl trivial ?_; refine At.regionEnd (At.seq (At.seq (At.region ?_))); refine At.ld 1 rfl rfl rfl rfl rfl rfl rfl rfl rfl ?_; refine At.cq rfl rfl rfl rfl rfl rfl rfl rfl (s24 L _ bs bs bs) ?_; refine At.v rfl rfl rfl rfl rfl trivial ?_
  refine At.regionEnd (At.seq (At.region ?_)); refine At.v rfl rfl rfl rfl rfl trivial ?_; refine At.cp rfl rfl rfl rfl rfl fun b11 h11 => ?_; refine At.regionEnd ?_
  cases b11
  · have hz : bookBar B = 0 := by simpa using h11
    rw [lookBar0 hz] at hc
    refine At.cond rfl ?_; refine At.skip (At.seq (At.seq (At.region ?_))); refine At.v rfl rfl rfl rfl rfl trivial ?_; refine At.cqb rfl rfl rfl rfl rfl rfl rfl rfl (s102 L _) fun b14 h14 => ?_; refine At.v rfl rfl rfl rfl rfl trivial ?_; refine At.regionEnd ?_
    cases b14
    · have he : hBar eye = 1 := by simp at h14; unfold hBar; rw [if_neg (by omega)]
      rw [he, if_pos (by simp)] at hc
      refine At.cond rfl ?_; refine At.seq (At.region ?_); refine At.v rfl rfl rfl rfl rfl trivial ?_; refine At.regionEnd ?_
      exact At.ret Tryz.func94 (.inr ⟨_, rfl⟩) rfl (.tmp rfl .nil) (wk (hc _ _ (⟨by rfl, rfl⟩)))
    · have he : hBar eye = 0 := by simp at h14; unfold hBar; rw [if_pos (by omega)]
      rw [he, if_neg (by simp)] at hc
      refine At.cond rfl ?_; refine At.skip (At.seq (At.region ?_)); refine At.ld 0 rfl rfl rfl rfl rfl rfl rfl rfl rfl ?_; refine At.cq rfl rfl rfl rfl rfl rfl rfl rfl (s47 L _) ?_; refine At.v rfl rfl rfl rfl rfl trivial ?_; refine At.regionEnd ?_
      exact At.ret Tryz.func94 (.inr ⟨_, rfl⟩) rfl (.tmp rfl .nil) (wk (hc _ _ (⟨by rfl, rfl⟩)))
  · have hz : bookBar B ≠ 0 := by simpa using h11
    rw [lookBarN hz] at hc
    refine At.cond rfl ?_; refine At.seq (At.region ?_); (iterate 2 refine At.v rfl rfl rfl rfl rfl trivial ?_); refine At.regionEnd ?_
    exact At.ret Tryz.func94 (.inr ⟨_, rfl⟩) rfl (.tmp rfl .nil) (wk (hc _ _ (⟨by rfl, rfl⟩)))
set_option maxRecDepth 100000 in
set_option maxHeartbeats 4000000 in
/-- Meet (ref02) -/
theorem s26 (L : Lg Tryz.prog main) (H : Facts) {B : Bk} {A : BkA} {eye : Int} {s : R2} (hB : BkR H B A) (hl : B.prof.length ≤ 100000) (hm : B.marks.length ≤ 100000) :
    Pure L 26 #[bkV B A, .int .i64 eye, rV s] H (if lookBar B [hBar eye, slopeBar s.1 s.2] ≠ 0 then .tuple #[rV (0, 0), rV (0, 0), .bool false, .int .i64 (lookBar B [hBar eye, slopeBar s.1 s.2])]
      else .tuple #[rV ((meetM B.prof eye s).getD ((0, 0), (0, 0))).1, rV ((meetM B.prof eye s).getD ((0, 0), (0, 0))).2, .bool (meetM B.prof eye s).isSome, .int .i64 0]) := by
  refine Spec.enter Tryz.func26 rfl (by simp [Tryz.f26]) fun c cs hc => ?_; refine At.seq (At.region ?_); refine At.bx rfl rfl rfl rfl rfl rfl rfl fun r3 => ?_; refine At.bx rfl rfl rfl rfl rfl rfl rfl fun r5 => ?_; refine At.al rfl rfl rfl rfl rfl fun r6 => ?_; refine At.al rfl rfl rfl rfl rfl fun r7 => ?_; (iterate 2 refine At.v rfl rfl rfl rfl rfl trivial ?_); refine At.regionEnd (At.seq (At.seq (At.region ?_))); refine At.ld 3 rfl rfl rfl rfl rfl rfl rfl rfl rfl ?_
  refine At.v rfl rfl rfl rfl rfl trivial ?_; refine At.ld 2 rfl rfl rfl rfl rfl rfl rfl rfl rfl ?_; refine At.cq rfl rfl rfl rfl rfl rfl rfl rfl (s94 L _ bs bs bs) ?_; refine At.v rfl rfl rfl rfl rfl trivial ?_; refine At.regionEnd (At.seq (At.region ?_)); refine At.v rfl rfl rfl rfl rfl trivial ?_; refine At.cp rfl rfl rfl rfl rfl fun b19 h19 => ?_; refine At.regionEnd ?_
  cases b19
  · have hk : lookBar B [hBar eye, slopeBar s.1 s.2] = 0 := by simpa using h19
    have hz := look_book hk
    have he := look_eye hk
    have hs := look_slope hk
    rw [if_neg (by simp [hk])] at hc
    refine At.cond rfl ?_; refine At.skip (At.seq (At.region ?_)); refine At.ld 3 rfl rfl rfl rfl rfl rfl rfl rfl rfl ?_; refine At.v rfl rfl rfl rfl rfl trivial ?_; refine At.ld 2 rfl rfl rfl rfl rfl rfl rfl rfl rfl ?_; refine At.cq rfl rfl rfl rfl rfl rfl rfl rfl (s95 L _ bs bs bs bs) ?_; (iterate 4 refine At.v rfl rfl rfl rfl rfl trivial ?_); refine At.al rfl rfl rfl rfl rfl fun r11 => ?_; refine At.al rfl rfl rfl rfl rfl fun r12 => ?_
    refine At.st 1 rfl rfl rfl rfl rfl rfl rfl rfl rfl rfl rfl rfl ?_; refine At.st 0 rfl rfl rfl rfl rfl rfl rfl rfl rfl rfl rfl rfl ?_; refine At.v rfl rfl rfl rfl rfl trivial ?_; refine At.regionEnd (At.seq ?_); refine At.drawJ hmix [3, 2] rfl ?_; refine Pool.ld 1 0 rfl rfl rfl rfl rfl rfl rfl rfl rfl rfl rfl ?_; refine Pool.ld 0 1 rfl rfl rfl rfl rfl rfl rfl rfl rfl rfl rfl ?_; refine Pool.v 2 rfl rfl rfl rfl rfl rfl rfl trivial ?_
    refine Pool.st 3 3 rfl rfl rfl rfl rfl rfl rfl rfl rfl rfl rfl rfl rfl rfl rfl rfl rfl rfl sb ?_; refine Pool.st 2 4 rfl rfl rfl rfl rfl rfl rfl rfl rfl rfl rfl rfl rfl rfl rfl rfl rfl rfl sb ?_; refine Pool.v 5 rfl rfl rfl rfl rfl rfl rfl trivial ?_; refine Pool.v 6 rfl rfl rfl rfl rfl rfl rfl trivial ?_; refine pool_done rfl rfl ?_; refine At.regionEnd ?_
    exact At.ret Tryz.func26 (.inr ⟨_, rfl⟩) rfl (.aggJ 3 rfl rfl rfl (.aggJ 2 rfl rfl rfl (.tmp rfl (.tmp rfl .nil)))) (wk (hc _ _ (⟨by rfl, rfl⟩)))
  · have hk : lookBar B [hBar eye, slopeBar s.1 s.2] ≠ 0 := by simpa using h19
    rw [if_pos hk] at hc
    refine At.cond rfl ?_; refine At.seq (At.region ?_); (iterate 2 refine At.q rfl rfl rfl rfl (q_build rfl rfl rfl) ?_); refine At.v rfl rfl rfl rfl rfl trivial ?_; refine At.st 1 rfl rfl rfl rfl rfl rfl rfl rfl rfl rfl rfl rfl ?_; refine At.st 0 rfl rfl rfl rfl rfl rfl rfl rfl rfl rfl rfl rfl ?_; (iterate 2 refine At.v rfl rfl rfl rfl rfl trivial ?_); refine At.regionEnd ?_
    exact At.ret Tryz.func26 (.inr ⟨_, rfl⟩) rfl (.aggJ 1 rfl rfl rfl (.aggJ 0 rfl rfl rfl (.tmp rfl (.tmp rfl .nil)))) (wk (hc _ _ (⟨by rfl, rfl⟩)))
set_option maxRecDepth 100000 in
set_option maxHeartbeats 4000000 in
/-- Square (ref02) -/
theorem s28 (L : Lg Tryz.prog main) (H : Facts) {B : Bk} {A : BkA} {eye : Int} {s : R2} (hB : BkR H B A) (hl : B.prof.length ≤ 100000) (hm : B.marks.length ≤ 100000) :
    Pure L 28 #[bkV B A, .int .i64 eye, rV s] H (if lookBar B [hBar eye, slopeBar s.1 s.2] ≠ 0 then .tuple #[.int .i64 0, rV (0, 0), .bool false, .int .i64 (lookBar B [hBar eye, slopeBar s.1 s.2])] else sqV B eye s) := by
  refine Spec.enter Tryz.func28 rfl (by simp [Tryz.f28]) fun c cs hc => ?_; refine At.seq (At.region ?_); refine At.bx rfl rfl rfl rfl rfl rfl rfl fun r3 => ?_; refine At.bx rfl rfl rfl rfl rfl rfl rfl fun r5 => ?_; refine At.v rfl rfl rfl rfl rfl trivial ?_; refine At.al rfl rfl rfl rfl rfl fun r7 => ?_; (iterate 2 refine At.v rfl rfl rfl rfl rfl trivial ?_); refine At.regionEnd (At.seq (At.seq (At.region ?_))); refine At.ld 2 rfl rfl rfl rfl rfl rfl rfl rfl rfl ?_
  refine At.v rfl rfl rfl rfl rfl trivial ?_; refine At.ld 1 rfl rfl rfl rfl rfl rfl rfl rfl rfl ?_; refine At.cq rfl rfl rfl rfl rfl rfl rfl rfl (s94 L _ bs bs bs) ?_; refine At.v rfl rfl rfl rfl rfl trivial ?_; refine At.regionEnd (At.seq (At.region ?_)); refine At.v rfl rfl rfl rfl rfl trivial ?_; refine At.cp rfl rfl rfl rfl rfl fun b21 h21 => ?_; refine At.regionEnd ?_
  cases b21
  · have hk : lookBar B [hBar eye, slopeBar s.1 s.2] = 0 := by simpa using h21
    have hz := look_book hk
    have he := look_eye hk
    have hs := look_slope hk
    rw [if_neg (by simp [hk])] at hc
    refine At.cond rfl ?_; refine At.skip (At.seq (At.region ?_)); refine At.ld 2 rfl rfl rfl rfl rfl rfl rfl rfl rfl ?_; refine At.v rfl rfl rfl rfl rfl trivial ?_; refine At.ld 1 rfl rfl rfl rfl rfl rfl rfl rfl rfl ?_; refine At.cq rfl rfl rfl rfl rfl rfl rfl rfl (s95 L _ bs bs bs bs) ?_; (iterate 4 refine At.v rfl rfl rfl rfl rfl trivial ?_); refine At.al rfl rfl rfl rfl rfl fun r11 => ?_; refine At.al rfl rfl rfl rfl rfl fun r12 => ?_
    refine At.st 1 rfl rfl rfl rfl rfl rfl rfl rfl rfl rfl rfl rfl ?_; refine At.st 0 rfl rfl rfl rfl rfl rfl rfl rfl rfl rfl rfl rfl ?_; refine At.v rfl rfl rfl rfl rfl trivial ?_; refine At.regionEnd (At.seq (At.seq (At.region ?_))); (iterate 2 refine At.v rfl rfl rfl rfl rfl trivial ?_); refine At.regionEnd ?_
    cases hm' : meetM B.prof eye s with
    | none =>
      rw [sqV_none hm'] at hc
      refine At.cond rfl ?_; refine At.seq (At.region ?_); refine At.q rfl rfl rfl rfl (q_build rfl rfl rfl) ?_; refine At.v rfl rfl rfl rfl rfl trivial ?_; refine At.st 2 rfl rfl rfl rfl rfl rfl rfl rfl rfl rfl rfl rfl ?_; (iterate 2 refine At.v rfl rfl rfl rfl rfl trivial ?_); refine At.regionEnd ?_
      exact At.ret Tryz.func28 (.inr ⟨_, rfl⟩) rfl (.tmp rfl (.aggJ 2 rfl rfl rfl (.tmp rfl (.tmp rfl .nil)))) (wk (hc _ _ (⟨by rfl, rfl⟩)))
    | some x =>
      rw [sqV_some hm'] at hc
      have hx := highOk_of (meetM_ok (profOk_of hz).2 he hs hm')
      refine At.cond rfl ?_; refine At.skip (At.seq (At.region ?_)); refine At.ld 4 rfl rfl rfl rfl rfl rfl rfl rfl rfl ?_; refine At.ld 0 rfl rfl rfl rfl rfl rfl rfl rfl rfl ?_; refine At.cq rfl rfl rfl rfl rfl rfl rfl rfl (s97 L _ bs bs bs) ?_; (iterate 3 refine At.v rfl rfl rfl rfl rfl trivial ?_); refine At.al rfl rfl rfl rfl rfl fun r15 => ?_; refine At.v rfl rfl rfl rfl rfl trivial ?_; refine At.st 0 rfl rfl rfl rfl rfl rfl rfl rfl rfl rfl rfl rfl ?_; refine At.regionEnd (At.seq ?_)
      refine At.drawJ hmix [3] rfl ?_; refine Pool.v 0 rfl rfl rfl rfl rfl rfl rfl trivial ?_; refine Pool.ld 0 1 rfl rfl rfl rfl rfl rfl rfl rfl rfl rfl rfl ?_; refine Pool.v 2 rfl rfl rfl rfl rfl rfl rfl trivial ?_; refine Pool.st 3 3 rfl rfl rfl rfl rfl rfl rfl rfl rfl rfl rfl rfl rfl rfl rfl rfl rfl rfl sb ?_; refine Pool.v 4 rfl rfl rfl rfl rfl rfl rfl trivial ?_; refine Pool.v 5 rfl rfl rfl rfl rfl rfl rfl trivial ?_; refine pool_done rfl rfl ?_; refine At.regionEnd ?_
      exact At.ret Tryz.func28 (.inr ⟨_, rfl⟩) rfl (.tmp rfl (.aggJ 3 rfl rfl rfl (.tmp rfl (.tmp rfl .nil)))) (wk (hc _ _ (⟨by rfl, rfl⟩)))
  · have hk : lookBar B [hBar eye, slopeBar s.1 s.2] ≠ 0 := by simpa using h21
    rw [if_pos hk] at hc
    refine At.cond rfl ?_; refine At.seq (At.region ?_); refine At.q rfl rfl rfl rfl (q_build rfl rfl rfl) ?_; (iterate 2 refine At.v rfl rfl rfl rfl rfl trivial ?_); refine At.st 0 rfl rfl rfl rfl rfl rfl rfl rfl rfl rfl rfl rfl ?_; (iterate 2 refine At.v rfl rfl rfl rfl rfl trivial ?_); refine At.regionEnd ?_
    exact At.ret Tryz.func28 (.inr ⟨_, rfl⟩) rfl (.tmp rfl (.aggJ 0 rfl rfl rfl (.tmp rfl (.tmp rfl .nil)))) (wk (hc _ _ (⟨by rfl, rfl⟩)))
end Go.Gx
end

section
set_option linter.unusedSimpArgs false
set_option linter.unusedVariables false
namespace Go.Gx
open Go Go.Conc Go.Proofs
variable {main : Bool}

theorem lessW_irr (a : R2) : lessW a a = false := by simp [lessW]
theorem hid_none {B : Bk} {eye : Int} {p : R2} (h : meetM B.prof eye (low (p.2 - eye) p.1) = none) : hidAt B eye p = false := by
  unfold hidAt toPt
  rw [h]
  simp [lessW]
theorem hid_some {B : Bk} {eye : Int} {p : R2} {x : Spot} (h : meetM B.prof eye (low (p.2 - eye) p.1) = some x) : hidAt B eye p = lessW x.1 (low p.1 1) := by
  unfold hidAt toPt
  rw [h, low_one]
  simp only [Option.getD]
  by_cases hx : x = ((p.1, 1), p.2, 1)
  · subst hx
    simp [lessW_irr]
  · simp [hx]
theorem s95a (L : Lg Tryz.prog main) (H : Facts) {B : Bk} {A : BkA} {eye : Int} {s : R2} (hB : BkR H B A) (hz : bookBar B = 0) (he : EyeOk eye) (hs : SlOk s) :
    Pure L 95 #[bkV B A, .int .i64 eye, .agg (List.toArray (c2 s))] H (.tuple #[rV ((meetM B.prof eye s).getD ((0, 0), (0, 0))).1, rV ((meetM B.prof eye s).getD ((0, 0), (0, 0))).2, .bool (meetM B.prof eye s).isSome]) := s95 L H hB hz he hs
set_option maxRecDepth 100000 in
set_option maxHeartbeats 4000000 in
/-- Hidden (ref02) -/
theorem s30 (L : Lg Tryz.prog main) (H : Facts) {B : Bk} {A : BkA} {eye : Int} (hB : BkR H B A) (hl : B.prof.length ≤ 100000) (hm : B.marks.length ≤ 100000) :
    Grows L 30 #[bkV B A, .int .i64 eye] H (fun v sf => ∃ a cap, v = .tuple #[.slice a (if lookBar B [hBar eye] ≠ 0 then [] else hiddenTo B eye B.prof.length).length cap, .int .i64 (lookBar B [hBar eye])] ∧
      Sl c1 3 (.slice a (if lookBar B [hBar eye] ≠ 0 then [] else hiddenTo B eye B.prof.length).length cap) (if lookBar B [hBar eye] ≠ 0 then [] else hiddenTo B eye B.prof.length) sf) := by
  refine Spec.enter Tryz.func30 rfl (by simp [Tryz.f30]) fun c cs hc => ?_; refine At.seq (At.region ?_); refine At.bx rfl rfl rfl rfl rfl rfl rfl fun r2 => ?_; (iterate 2 refine At.v rfl rfl rfl rfl rfl trivial ?_); refine At.regionEnd (At.seq (At.seq (At.region ?_))); refine At.ld 0 rfl rfl rfl rfl rfl rfl rfl rfl rfl ?_; refine At.cq rfl rfl rfl rfl rfl rfl rfl rfl (s24 L _ bs bs bs) ?_; refine At.v rfl rfl rfl rfl rfl trivial ?_; refine At.regionEnd (At.seq (At.region ?_))
  refine At.v rfl rfl rfl rfl rfl trivial ?_; refine At.cp rfl rfl rfl rfl rfl fun b16 h16 => ?_; refine At.regionEnd ?_
  cases b16
  · have hz : bookBar B = 0 := by simpa using h16
    rw [lookBar1 hz, firstBar1] at hc
    refine At.cond rfl ?_; refine At.skip (At.seq (At.seq (At.region ?_))); refine At.v rfl rfl rfl rfl rfl trivial ?_; refine At.cqb rfl rfl rfl rfl rfl rfl rfl rfl (s102 L _) fun b19 h19 => ?_; refine At.v rfl rfl rfl rfl rfl trivial ?_; refine At.regionEnd ?_
    cases b19
    · have he : hBar eye = 1 := by simp at h19; unfold hBar; rw [if_neg (by omega)]
      simp only [he] at hc
      refine At.cond rfl ?_; refine At.seq (At.region ?_); (iterate 2 refine At.v rfl rfl rfl rfl rfl trivial ?_); refine At.regionEnd ?_
      exact At.ret Tryz.func30 (.inr ⟨_, rfl⟩) rfl (.tmp rfl (.tmp rfl .nil)) (wk (hc _ _ (⟨[], ⟨none, 0, rfl, Sl.nil⟩, rfl⟩)))
    · have he' : EyeOk eye := by simp at h19; unfold EyeOk; omega
      have he : hBar eye = 0 := if_pos he'
      have hp := profOk_of hz
      have h1 := opn_of hz
      simp only [he, ne_eq, not_true_eq_false, if_false] at hc
      refine At.cond rfl ?_; refine At.skip (At.seq (At.region ?_)); refine At.v rfl rfl rfl rfl rfl trivial ?_; refine At.regionEnd (At.seq (At.seq (At.region ?_))); refine At.v rfl rfl rfl rfl rfl trivial ?_; refine At.regionEnd ?_; refine At.block ?_
      refine At.lpk (X := { x : Nat × Value × Facts // x.1 ≤ B.prof.length ∧ Sl c1 3 x.2.1 (hiddenTo B eye x.1) x.2.2 }) [1, 2, 4, 5] (fun x => [(8, .int .i64 (x.1.1 : Int)), (7, x.1.2.1)]) (fun x => .own r2 (.cells (List.toArray (bkC B A)) 27 (0, 0)) :: (x.1.2.2 ++ H)) (fun x => B.prof.length - x.1.1) (⟨(0, .slice none 0 0, []), by simp, Sl.nil⟩) rfl ?_ (by repeat (first | exact trivial | refine ⟨rfl, ?_⟩)) sb
      rintro ⟨⟨j, v, sf⟩, hj, hsl⟩ again
      simp only at again hj hsl ⊢
      have hlen := hiddenTo_len B eye j
      refine At.seq (At.seq (At.region ?_)); refine At.v rfl rfl rfl rfl rfl trivial ?_; refine At.fa 0 rfl rfl rfl rfl rfl rfl rfl ?_; refine At.ld 0 rfl rfl rfl rfl rfl rfl rfl rfl rfl ?_; refine At.ln rfl rfl rfl rfl rfl rfl rfl rfl ?_; refine At.cp rfl rfl rfl rfl rfl fun b25 h25 => ?_; refine At.regionEnd ?_
      cases b25
      · have e : j = B.prof.length := by simp at h25; omega
        subst e
        obtain ⟨a, cap, rfl⟩ := hsl.slice
        refine At.cond rfl ?_; refine At.exit rfl ?_; refine At.seq (At.region ?_); (iterate 3 refine At.v rfl rfl rfl rfl rfl trivial ?_); refine At.regionEnd ?_
        exact At.ret Tryz.func30 (.inr ⟨_, rfl⟩) rfl (.tmp rfl (.tmp rfl .nil)) (wk (hc _ _ (⟨sf, ⟨a, cap, rfl, hsl⟩, rfl⟩)))
      · have hlt : j < B.prof.length := by simp at h25; omega
        obtain ⟨b, off, e, hcj⟩ := hB.p.el (List.getElem?_eq_getElem hlt)
        have hpj := hp.2 _ (List.getElem_mem hlt)
        have hsl' := low_pt hpj he'
        have hl20 := hp.1
        have hgd : B.prof.getD j (0, 0) = B.prof[j] := by rw [List.getD_eq_getElem?_getD, List.getElem?_eq_getElem hlt]; rfl
        have hsucc : hiddenTo B eye (j + 1) = hiddenTo B eye j ++ (if hidAt B eye B.prof[j] then [(j : Int)] else []) := by rw [← hgd]; rfl
        have g1 : B.prof[j].1 ≠ 0 := by unfold PtOk at hpj; omega
        have g2 : Mid (B.prof[j].2 - eye) := by unfold PtOk at hpj; unfold EyeOk at he'; omega
        have g3 : Mid B.prof[j].1 := by unfold PtOk at hpj; omega
        have g4 : InI (B.prof[j].2 - eye) := by unfold PtOk at hpj; unfold EyeOk at he'; omega
        have g5 : Mid 1 := by omega
        have stop95 := trivial
        refine At.cond rfl ?_; refine At.skip (At.seq ?_); refine At.block ?_; refine At.seq (At.region ?_); refine At.fa 0 rfl rfl rfl rfl rfl rfl rfl ?_; refine At.ld 0 rfl rfl rfl rfl rfl rfl rfl rfl rfl ?_; refine At.v rfl rfl rfl rfl rfl trivial ?_; refine At.q rfl rfl rfl rfl (q_iaQ (k := (j)) rfl rfl rfl (by assumption) rfl (by assumption)) ?_; refine At.ldc rfl rfl rfl rfl rfl rfl hcj.a rfl rfl ?_; refine At.al rfl rfl rfl rfl rfl fun r9 => ?_
        refine At.st 0 rfl rfl rfl rfl rfl rfl rfl rfl rfl rfl rfl rfl ?_; refine At.regionEnd (At.seq ?_); refine At.drawJ hmix [] rfl ?_; refine Pool.ld 1 0 rfl rfl rfl rfl rfl rfl rfl rfl rfl rfl rfl ?_; refine Pool.v 1 rfl rfl rfl rfl rfl rfl rfl trivial ?_; refine Pool.fa 1 2 rfl rfl rfl rfl rfl rfl rfl rfl rfl ?_; refine Pool.ld 0 3 rfl rfl rfl rfl rfl rfl rfl rfl rfl rfl rfl ?_; refine Pool.v 4 rfl rfl rfl rfl rfl rfl rfl trivial ?_; refine Pool.v 5 rfl rfl rfl rfl rfl rfl rfl (by assumption) ?_
        refine Pool.fa 0 6 rfl rfl rfl rfl rfl rfl rfl rfl rfl ?_; refine Pool.ld 0 7 rfl rfl rfl rfl rfl rfl rfl rfl rfl rfl rfl ?_; refine Pool.cq 8 rfl rfl rfl rfl rfl rfl rfl rfl rfl (fun H hs => s46 L H bs bs bs) ?_; refine Pool.fl 14 rfl rfl rfl rfl rfl rfl rfl rfl rfl rfl ?_; refine Pool.fl 15 rfl rfl rfl rfl rfl rfl rfl rfl rfl rfl ?_
        clear stop95
        have h95 := fun H_ (hB_ : BkR H_ B A) => s95a L H_ (s := low (B.prof[j].2 - eye) B.prof[j].1) hB_ hz he' hsl'
        refine Pool.cq 9 rfl rfl rfl rfl rfl rfl rfl rfl rfl (fun H_ hs_ => h95 _ hB.a) ?_; refine Pool.v 10 rfl rfl rfl rfl rfl rfl rfl trivial ?_; refine Pool.v 11 rfl rfl rfl rfl rfl rfl rfl trivial ?_; refine Pool.v 12 rfl rfl rfl rfl rfl rfl rfl trivial ?_; refine Pool.v 13 rfl rfl rfl rfl rfl rfl rfl trivial ?_; refine Pool.v 18 rfl rfl rfl rfl rfl rfl rfl trivial ?_; refine pool_take rfl rfl rfl fun rf15 => ?_; refine pool_take rfl rfl rfl fun rf14 => ?_
        refine Pool.st 0 16 rfl rfl rfl rfl rfl rfl rfl rfl rfl rfl rfl rfl rfl rfl rfl rfl rfl rfl sb ?_; refine Pool.st 1 17 rfl rfl rfl rfl rfl rfl rfl rfl rfl rfl rfl rfl rfl rfl rfl rfl rfl rfl sb ?_; refine pool_done rfl rfl ?_; refine At.regionEnd (At.seq ?_); refine At.drawJ hmix [] rfl ?_; refine Pool.v 0 rfl rfl rfl rfl rfl rfl rfl trivial ?_; refine Pool.v 1 rfl rfl rfl rfl rfl rfl rfl trivial ?_
        cases hm' : meetM B.prof eye (low (B.prof[j].2 - eye) B.prof[j].1) with
        | none =>
          rw [hid_none hm', if_neg (by simp), List.append_nil] at hsucc
          refine Pool.un 2 rfl rfl rfl rfl rfl rfl ?_; refine Pool.un 3 rfl rfl rfl rfl rfl rfl ?_; refine Pool.un 4 rfl rfl rfl rfl rfl rfl ?_; refine Pool.un 5 rfl rfl rfl rfl rfl rfl ?_; refine Pool.un 6 rfl rfl rfl rfl rfl rfl ?_; refine Pool.v 7 rfl rfl rfl rfl rfl rfl rfl trivial ?_; refine pool_done rfl rfl ?_; refine At.regionEnd ?_; refine At.cond rfl ?_; refine At.skip ?_; refine At.inBlock ?_; refine At.region ?_; refine At.v rfl rfl rfl rfl rfl trivial ?_
          refine At.v rfl rfl rfl rfl rfl (by omega) ?_; refine At.v rfl rfl rfl rfl rfl trivial ?_; refine At.regionEnd ?_
          refine At.tA ((again ⟨(j + 1, v, sf), hlt, by rw [hsucc]; exact hsl⟩ (by simp; omega)))
        | some x =>
          rw [hid_some hm'] at hsucc
          refine Pool.ld 0 2 rfl rfl rfl rfl rfl rfl rfl rfl rfl rfl rfl ?_; refine Pool.fa 0 3 rfl rfl rfl rfl rfl rfl rfl rfl rfl ?_; refine Pool.ld 2 4 rfl rfl rfl rfl rfl rfl rfl rfl rfl rfl rfl ?_; refine Pool.cq 5 rfl rfl rfl rfl rfl rfl rfl rfl rfl (fun H hs => s46 L H bs bs bs) ?_; refine Pool.cqb 6 rfl rfl rfl rfl rfl rfl rfl rfl rfl (fun H hs => s103 L H) fun b53 h53 => ?_; refine Pool.v 7 rfl rfl rfl rfl rfl rfl rfl trivial ?_; refine pool_done rfl rfl ?_; refine At.regionEnd ?_
          have e53 : lessW x.1 (low B.prof[j].1 1) = b53 := h53
          rw [e53] at hsucc
          cases b53
          · rw [if_neg (by simp), List.append_nil] at hsucc
            refine At.cond rfl ?_; refine At.skip ?_; refine At.inBlock ?_; refine At.region ?_; refine At.v rfl rfl rfl rfl rfl trivial ?_; refine At.v rfl rfl rfl rfl rfl (by omega) ?_; refine At.v rfl rfl rfl rfl rfl trivial ?_; refine At.regionEnd ?_
            refine At.tA ((again ⟨(j + 1, v, sf), hlt, by rw [hsucc]; exact hsl⟩ (by simp; omega)))
          · rw [if_pos rfl] at hsucc
            refine At.cond rfl ?_; refine At.region ?_; (iterate 2 refine At.v rfl rfl rfl rfl rfl trivial ?_)
            (refine At.l rfl rfl rfl rfl (l_buildSlice rfl rfl rfl rfl rfl) ?_; rintro _ _ ⟨r57, rfl, rfl⟩)
            refine At.push (x := (j : Int)) 0 5 rfl rfl rfl rfl rfl rfl rfl rfl rfl rfl rfl rfl rfl rfl hsl rfl rfl rfl ?_ fun v sf hs => ?_
            · omega
            · rw [← hsucc] at hs
              refine At.v rfl rfl rfl rfl rfl trivial ?_; refine At.regionEnd ?_; refine At.inBlock ?_; refine At.region ?_; refine At.v rfl rfl rfl rfl rfl trivial ?_; refine At.v rfl rfl rfl rfl rfl (by omega) ?_; refine At.v rfl rfl rfl rfl rfl trivial ?_; refine At.regionEnd ?_
              refine At.tA ((again ⟨(j + 1, v, sf), hlt, hs⟩ (by simp; omega)))
  · have hz : bookBar B ≠ 0 := by simpa using h16
    rw [lookBarN hz] at hc
    simp only [if_pos hz] at hc
    refine At.cond rfl ?_; refine At.seq (At.region ?_); (iterate 3 refine At.v rfl rfl rfl rfl rfl trivial ?_); refine At.regionEnd ?_
    exact At.ret Tryz.func30 (.inr ⟨_, rfl⟩) rfl (.tmp rfl (.tmp rfl .nil)) (wk (hc _ _ (⟨[], ⟨none, 0, rfl, Sl.nil⟩, rfl⟩)))
end Go.Gx
end

section
/-
  LOGIC G: what a call has made is put behind the cells that one knows by their places.
-/
set_option linter.unusedSimpArgs false
set_option linter.unusedVariables false
namespace Go.Gx
open Go Go.Conc
/-- 'Y' is 'sf ++ X' with the own cells that stand first in 'X' ahead of 'sf'. -/
class Back (sf X : Facts) (Y : outParam Facts) : Prop where
  s : Sub Y (sf ++ X)
instance (priority := low) backNil {sf X : Facts} : Back sf X (sf ++ X) := ⟨Sub.refl _⟩
instance backCons {sf X Y : Facts} {r : Nat} {o : Obj} [h : Back sf X Y] : Back sf (.own r o :: X) (.own r o :: Y) :=
  ⟨(Sub.cons _ h.s).trans (Sub.of_perm List.perm_middle.symm)⟩
theorem At.back {P : Program} {main : Bool} {L : Lg P main} {f : FuncId} {ro : Option Nat} {ds : Dz} {cs : List Frame} {n : Nat} {E : Env} {k : List Item} {sf X Y : Facts} [hb : Back sf X Y] (h : At L f ro ds cs n E Y k) : At L f ro ds cs n E (sf ++ X) k :=
  h.weakH hb.s
end Go.Gx
end

section
set_option linter.unusedSimpArgs false
set_option linter.unusedVariables false
namespace Go.Gx
open Go Go.Conc Go.Proofs

def meetD (B : Bk) (eye : Int) (s : R2) : (R2 × R2) × Bool × Int :=
  if lookBar B [hBar eye, slopeBar s.1 s.2] ≠ 0 then (((0, 0), (0, 0)), false, lookBar B [hBar eye, slopeBar s.1 s.2]) else ((meetM B.prof eye s).getD ((0, 0), (0, 0)), (meetM B.prof eye s).isSome, 0)
theorem meetD_eq (B : Bk) (eye : Int) (s : R2) : (if lookBar B [hBar eye, slopeBar s.1 s.2] ≠ 0 then Value.tuple #[rV (0, 0), rV (0, 0), .bool false, .int .i64 (lookBar B [hBar eye, slopeBar s.1 s.2])]
      else .tuple #[rV ((meetM B.prof eye s).getD ((0, 0), (0, 0))).1, rV ((meetM B.prof eye s).getD ((0, 0), (0, 0))).2, .bool (meetM B.prof eye s).isSome, .int .i64 0])
    = .tuple #[.agg #[.int .i64 (meetD B eye s).1.1.1, .int .i64 (meetD B eye s).1.1.2], .agg #[.int .i64 (meetD B eye s).1.2.1, .int .i64 (meetD B eye s).1.2.2], .bool (meetD B eye s).2.1, .int .i64 (meetD B eye s).2.2] := by
  unfold meetD
  split <;> rfl
def squD (B : Bk) (eye : Int) (s : R2) : (Int × R2) × Bool × Int :=
  if lookBar B [hBar eye, slopeBar s.1 s.2] ≠ 0 then ((0, (0, 0)), false, lookBar B [hBar eye, slopeBar s.1 s.2]) else (((meetM B.prof eye s).map fun x => squareM B x.2).getD (0, (0, 0)), (meetM B.prof eye s).isSome, 0)
theorem squD_eq (B : Bk) (eye : Int) (s : R2) : (if lookBar B [hBar eye, slopeBar s.1 s.2] ≠ 0 then Value.tuple #[.int .i64 0, rV (0, 0), .bool false, .int .i64 (lookBar B [hBar eye, slopeBar s.1 s.2])] else sqV B eye s)
    = .tuple #[.int .i64 (squD B eye s).1.1, .agg #[.int .i64 (squD B eye s).1.2.1, .int .i64 (squD B eye s).1.2.2], .bool (squD B eye s).2.1, .int .i64 (squD B eye s).2.2] := by
  unfold squD
  split
  · rfl
  · cases hm : meetM B.prof eye s with
    | none => rw [sqV_none hm]; rfl
    | some x => rw [sqV_some hm]; rfl
set_option maxRecDepth 100000 in
set_option maxHeartbeats 4000000 in
/-- CanvasLines -/
theorem s3 {Post : Value → World → Prop} {W₀ : World} {H Hg : Facts} (hG : Glo H Hg) {B : Bk} {A : BkA} (hBk : BkR H B A) {eye : Int} {s : R2} :
    LawAt (mainLg Tryz.prog Post W₀ [] []) 3 #[bkV B A, .int .i64 eye, .agg #[.int .i64 s.1, .int .i64 s.2]] H (.bool true) := by
  refine LawAt.enter Tryz.func3 rfl (by simp [Tryz.f3]) fun cs hLB => ?_
  obtain ⟨pa, pc, ma, mc⟩ := A
  generalize hL : mainLg Tryz.prog Post W₀ [] [] = L at hLB ⊢
  refine At.seq (At.region ?_); refine At.bx rfl rfl rfl rfl rfl rfl rfl fun r3 => ?_; refine At.bx rfl rfl rfl rfl rfl rfl rfl fun r5 => ?_; refine At.v rfl rfl rfl rfl rfl trivial ?_; refine At.regionEnd (At.seq (At.seq (At.region ?_))); refine At.ld 1 rfl rfl rfl rfl rfl rfl rfl rfl rfl ?_; refine At.cqb rfl rfl rfl rfl rfl rfl rfl rfl (s21 L _) fun b22 h22 => ?_; refine At.regionEnd ?_
  cases b22
  rotate_left
  · have stop22 := trivial
    refine At.cond rfl ?_; refine At.seq (At.region ?_)
    subst hL
    refine At.cq rfl rfl rfl rfl rfl rfl rfl rfl (s22 hG.a) ?_; refine At.v rfl rfl rfl rfl rfl trivial ?_; refine At.regionEnd ?_
    exact hLB Tryz.func3 (.inr ⟨_, rfl⟩) rfl (.tmp rfl .nil) (⟨by rfl, rfl⟩)
  have hl1 : B.prof.length ≤ 100000 := by simp at h22; omega
  have hl2 : B.marks.length ≤ 100000 := by simp at h22; omega
  have hg : Cells H 0 0 chkC := hG.g.a hG.sub
  have hO : Opn H B ⟨pa, pc, ma, mc⟩ := ⟨hg, hBk, hl1, hl2⟩
  refine At.cond rfl ?_; refine At.skip (At.seq (At.seq ?_)); refine At.drawJ hmix [] rfl ?_; refine Pool.ld 1 0 rfl rfl rfl rfl rfl rfl rfl rfl rfl rfl rfl ?_; refine Pool.cq 1 rfl rfl rfl rfl rfl rfl rfl rfl rfl (fun H hs => s23 L H bs bs bs bs) ?_; refine Pool.ld 1 2 rfl rfl rfl rfl rfl rfl rfl rfl rfl rfl rfl ?_; refine Pool.cq 3 rfl rfl rfl rfl rfl rfl rfl rfl rfl (fun H hs => s24 L H bs bs bs) ?_; refine Pool.cp 4 rfl rfl rfl rfl rfl rfl rfl fun b28 h28 => ?_; refine pool_done rfl rfl ?_
  refine At.regionEnd ?_
  have e28 : b28 = false := by rw [← h28]; simp
  subst e28
  have h25 := fun H_ (hO_ : Opn H_ B ⟨pa, pc, ma, mc⟩) => s25 L H_ (s := s) (eye := eye) hO_
  have h26 := fun H_ (hB_ : BkR H_ B ⟨pa, pc, ma, mc⟩) => s26 L H_ (s := s) (eye := eye) hB_ hl1 hl2
  have h27 := fun H_ (hO_ : Opn H_ B ⟨pa, pc, ma, mc⟩) => s27 L H_ (s := s) (eye := eye) hO_
  have h28' := fun H_ (hB_ : BkR H_ B ⟨pa, pc, ma, mc⟩) => s28 L H_ (s := s) (eye := eye) hB_ hl1 hl2
  simp only [meetD_eq, squD_eq] at h25 h26 h27 h28'
  generalize meetD B eye s = md at h25 h26
  generalize squD B eye s = sd at h27 h28'
  have stop25 := trivial
  refine At.cond rfl ?_; refine At.skip (At.seq (At.region ?_)); refine At.ld 1 rfl rfl rfl rfl rfl rfl rfl rfl rfl ?_; refine At.v rfl rfl rfl rfl rfl trivial ?_; refine At.ld 0 rfl rfl rfl rfl rfl rfl rfl rfl rfl ?_
  clear stop25
  refine At.cq rfl rfl rfl rfl rfl rfl rfl rfl (h25 _ hO.a) ?_
  have stop26 := trivial
  (iterate 5 refine At.v rfl rfl rfl rfl rfl trivial ?_); refine At.al rfl rfl rfl rfl rfl fun r7 => ?_; refine At.al rfl rfl rfl rfl rfl fun r8 => ?_; refine At.st 1 rfl rfl rfl rfl rfl rfl rfl rfl rfl rfl rfl rfl ?_; refine At.st 0 rfl rfl rfl rfl rfl rfl rfl rfl rfl rfl rfl rfl ?_; (iterate 2 refine At.v rfl rfl rfl rfl rfl trivial ?_); refine At.regionEnd (At.seq (At.region ?_)); refine At.ld 3 rfl rfl rfl rfl rfl rfl rfl rfl rfl ?_; refine At.v rfl rfl rfl rfl rfl trivial ?_
  refine At.ld 2 rfl rfl rfl rfl rfl rfl rfl rfl rfl ?_
  clear stop26
  refine At.cq rfl rfl rfl rfl rfl rfl rfl rfl (h26 _ hBk.a) ?_
  have stop27 := trivial
  (iterate 5 refine At.v rfl rfl rfl rfl rfl trivial ?_); refine At.al rfl rfl rfl rfl rfl fun r11 => ?_; refine At.al rfl rfl rfl rfl rfl fun r12 => ?_; refine At.st 1 rfl rfl rfl rfl rfl rfl rfl rfl rfl rfl rfl rfl ?_; refine At.st 0 rfl rfl rfl rfl rfl rfl rfl rfl rfl rfl rfl rfl ?_; (iterate 2 refine At.v rfl rfl rfl rfl rfl trivial ?_); refine At.regionEnd (At.seq (At.seq (At.region ?_))); refine At.ld 3 rfl rfl rfl rfl rfl rfl rfl rfl rfl ?_
  refine At.ld 1 rfl rfl rfl rfl rfl rfl rfl rfl rfl ?_; refine At.qb rfl rfl rfl rfl (q_neqS rfl rfl rfl rfl rfl rfl rfl rfl) fun b49 h49 => ?_; refine At.v rfl rfl rfl rfl rfl trivial ?_
  obtain rfl : b49 = false := h49.symm.trans (by simp)
  refine At.ld 2 rfl rfl rfl rfl rfl rfl rfl rfl rfl ?_; refine At.ld 0 rfl rfl rfl rfl rfl rfl rfl rfl rfl ?_; refine At.qb rfl rfl rfl rfl (q_neqS rfl rfl rfl rfl rfl rfl rfl rfl) fun b53 h53 => ?_; (iterate 2 refine At.v rfl rfl rfl rfl rfl trivial ?_)
  obtain rfl : b53 = false := h53.symm.trans (by simp)
  (iterate 2 refine At.v rfl rfl rfl rfl rfl trivial ?_); refine At.qb rfl rfl rfl rfl (q_neqB rfl rfl rfl) fun b58 h58 => ?_; (iterate 2 refine At.v rfl rfl rfl rfl rfl trivial ?_)
  obtain rfl : b58 = false := h58.symm.trans (by simp)
  (iterate 2 refine At.v rfl rfl rfl rfl rfl trivial ?_); refine At.cp rfl rfl rfl rfl rfl fun b63 h63 => ?_; refine At.v rfl rfl rfl rfl rfl trivial ?_; refine At.regionEnd ?_
  obtain rfl : b63 = false := h63.symm.trans (by simp)
  refine At.cond rfl ?_; refine At.skip (At.seq (At.region ?_)); refine At.ld 5 rfl rfl rfl rfl rfl rfl rfl rfl rfl ?_; refine At.v rfl rfl rfl rfl rfl trivial ?_; refine At.ld 4 rfl rfl rfl rfl rfl rfl rfl rfl rfl ?_
  clear stop27
  refine At.cq rfl rfl rfl rfl rfl rfl rfl rfl (h27 _ hO.a) ?_
  have stop28 := trivial
  (iterate 6 refine At.v rfl rfl rfl rfl rfl trivial ?_); refine At.st 3 rfl rfl rfl rfl rfl rfl rfl rfl rfl rfl rfl rfl ?_; (iterate 2 refine At.v rfl rfl rfl rfl rfl trivial ?_); refine At.regionEnd (At.seq (At.region ?_)); refine At.ld 5 rfl rfl rfl rfl rfl rfl rfl rfl rfl ?_; refine At.v rfl rfl rfl rfl rfl trivial ?_; refine At.ld 4 rfl rfl rfl rfl rfl rfl rfl rfl rfl ?_
  clear stop28
  refine At.cq rfl rfl rfl rfl rfl rfl rfl rfl (h28' _ hBk.a) ?_
  have stop29 := trivial
  (iterate 6 refine At.v rfl rfl rfl rfl rfl trivial ?_); refine At.st 1 rfl rfl rfl rfl rfl rfl rfl rfl rfl rfl rfl rfl ?_; (iterate 2 refine At.v rfl rfl rfl rfl rfl trivial ?_); refine At.regionEnd (At.seq (At.region ?_)); refine At.ld 5 rfl rfl rfl rfl rfl rfl rfl rfl rfl ?_; refine At.v rfl rfl rfl rfl rfl trivial ?_
  clear stop29
  refine At.cl rfl rfl rfl rfl rfl rfl rfl rfl (s29 L _ hO.a) ?_
  rintro _ _ ⟨sf, ⟨a, cap, rfl, hsl⟩, rfl⟩
  refine At.back ?_
  have stop30 := trivial
  (iterate 5 refine At.v rfl rfl rfl rfl rfl trivial ?_); refine At.regionEnd (At.seq (At.region ?_)); refine At.ld 5 rfl rfl rfl rfl rfl rfl rfl rfl rfl ?_; refine At.v rfl rfl rfl rfl rfl trivial ?_
  clear stop30
  refine At.cl rfl rfl rfl rfl rfl rfl rfl rfl (s30 L _ hBk.a hl1 hl2) ?_
  rintro _ _ ⟨sf', ⟨a', cap', rfl, hsl'⟩, rfl⟩
  refine At.back ?_
  obtain ⟨_, hrs, _⟩ := hsl.rd
  obtain ⟨_, hrs', _⟩ := hsl'.rd
  have hln : (if lookBar B [hBar eye] ≠ 0 then [] else hiddenTo B eye B.prof.length).length ≤ 100000 := by
    split
    · simp
    · exact Nat.le_trans (hiddenTo_len B eye _) hl1
  generalize (if lookBar B [hBar eye] ≠ 0 then [] else hiddenTo B eye B.prof.length) = xs at hrs hrs' hln ⊢
  have stop31 := trivial
  (iterate 5 refine At.v rfl rfl rfl rfl rfl trivial ?_); refine At.regionEnd (At.seq (At.region ?_)); (iterate 2 refine At.v rfl rfl rfl rfl rfl trivial ?_); refine At.cp rfl rfl rfl rfl rfl fun b97 h97 => ?_; refine At.v rfl rfl rfl rfl rfl trivial ?_
  obtain rfl : b97 = true := h97.symm.trans (by simp)
  refine At.ld 3 rfl rfl rfl rfl rfl rfl rfl rfl rfl ?_; refine At.ld 1 rfl rfl rfl rfl rfl rfl rfl rfl rfl ?_; refine At.qb rfl rfl rfl rfl (q_eqS rfl rfl rfl rfl rfl rfl rfl rfl) fun b101 h101 => ?_; (iterate 2 refine At.v rfl rfl rfl rfl rfl trivial ?_)
  obtain rfl : b101 = true := h101.symm.trans (by simp)
  (iterate 2 refine At.v rfl rfl rfl rfl rfl trivial ?_); refine At.qb rfl rfl rfl rfl (q_eqlB rfl rfl rfl) fun b106 h106 => ?_; (iterate 2 refine At.v rfl rfl rfl rfl rfl trivial ?_)
  obtain rfl : b106 = true := h106.symm.trans (by simp)
  (iterate 2 refine At.v rfl rfl rfl rfl rfl trivial ?_); refine At.cp rfl rfl rfl rfl rfl fun b111 h111 => ?_; (iterate 2 refine At.v rfl rfl rfl rfl rfl trivial ?_)
  obtain rfl : b111 = true := h111.symm.trans (by simp)
  (iterate 2 refine At.v rfl rfl rfl rfl rfl trivial ?_)
  clear stop31
  refine At.cq rfl rfl rfl rfl rfl rfl rfl rfl (s31 L _ (xs := xs) (ys := xs) rfl rfl hrs.a hrs'.a hln) ?_
  rw [show decide (xs = xs) = true by simp]
  have stop22 := trivial
  (iterate 4 refine At.v rfl rfl rfl rfl rfl trivial ?_); refine At.cp rfl rfl rfl rfl rfl fun b121 h121 => ?_; (iterate 2 refine At.v rfl rfl rfl rfl rfl trivial ?_)
  obtain rfl : b121 = true := h121.symm.trans (by simp)
  subst hL
  refine At.cq rfl rfl rfl rfl rfl rfl rfl rfl (s22 hG.a) ?_; (iterate 2 refine At.v rfl rfl rfl rfl rfl trivial ?_); refine At.regionEnd ?_
  exact hLB Tryz.func3 (.inr ⟨_, rfl⟩) rfl (.tmp rfl .nil) (⟨by rfl, rfl⟩)
end Go.Gx
end

section
set_option linter.unusedSimpArgs false
set_option linter.unusedVariables false
namespace Go.Gx
open Go Go.Conc Go.Proofs Go.ChangeShapes Go.RowKit YtokdmiiejfmomaaGreatDoor
set_option maxRecDepth 100000
theorem ip3 : Tryz.prog.inPlace 3 = [] := by kernel_rfl
theorem uf3 : Tryz.prog.unfollowed 3 = true := by kernel_rfl
theorem rc3 : Tryz.prog.recurses 3 = true := by kernel_rfl
theorem vn3 : Tryz.prog.varsNamed 3 = ["velarium/canvas.checks"] := by kernel_rfl
theorem closed3 : joinedFacts Tryz.prog 3 Tryz.f3 Rows.canvasLinesSpec Rows.canvasLinesRow = true := by
  unfold joinedFacts
  rewrite [ip3, uf3, rc3, vn3, enter1, lf1, make1]
  kernel_rfl
theorem fnm3 : Tryz.prog.funcNamed "velarium/velariumlaw02.CanvasLines" = some 3 := by kernel_rfl
theorem inst3 : Tryz.f3.isInstance Tryz.prog Rows.canvasLinesRow.origin Rows.canvasLinesRow.targs := of_decide_eq_true (by kernel_rfl)
theorem wrap3 : Tryz.f3.isWrapper Tryz.prog Rows.canvasLinesRow.wrapper Rows.canvasLinesRow.mainSum := by unfold Func.isWrapper; first | (rw [if_pos (by decide +kernel)]; kernel_rfl) | (rw [if_neg (by decide +kernel)]; exact ⟨rfl, rfl⟩)
theorem goes3 : Tryz.prog.goes 3 = true := by kernel_rfl
theorem wbt3 : Rows.canvasLinesRow.wfByText (OpenSpec.ofChange Rows.canvasLinesSpec) = true := by kernel_rfl
theorem wants3 : (Tryz.f3.params.toList.all fun t => !Tryz.prog.wantsStandIn t) = true := by kernel_rfl
theorem lifted3 (os : Os) (started : os.Started) (H : Type) (enc : TypeId × Value → H) :
    ReturnsInLeavingWide {} Tryz.checked os 3 .any (fun w args => (Rows.canvasLinesSpec.pre enc Tryz.prog Tryz.f3 [] false w args ∧ laidMetH Tryz.prog laid1 w) ∧ sizedMet enc Tryz.prog Tryz.f3 (OpenSpec.ofChange Rows.canvasLinesSpec) false w args) (Rows.canvasLinesSpec.post enc Tryz.prog Tryz.f3 false true false false) := by
  refine law_lift Tryz.func3 (by kernel_rfl) rfl rfl (by kernel_rfl) os started H enc #[.agg #[.slice none 0 0, .int .i64 0, .int .i64 0, .int .i64 0, .slice none 0 0], .int .i64 0, .agg #[.int .i64 0, .int .i64 0]]
    (World.shaped_of_RefB (by kernel_rfl) (by kernel_rfl)) (by kernel_rfl) (by kernel_rfl) (by kernel_rfl) ?_
  intro W base args ds ps hval hA
  rw [Tryz.params3] at hval hA
  obtain ⟨v0, vs0, d0, ds0, p0, q0, e0, rfl, rfl, h0, hA⟩ := trodAll_cons hA
  obtain ⟨v1, vs1, d1, ds1, p1, q1, rfl, rfl, rfl, h1, hA⟩ := trodAll_cons hA
  obtain ⟨v2, vs2, d2, ds2, p2, q2, rfl, rfl, rfl, h2, hA⟩ := trodAll_cons hA
  obtain ⟨rfl, rfl, rfl⟩ := trodAll_nil hA
  obtain rfl : args = #[v0, v1, v2] := Array.toList_inj.1 e0
  obtain ⟨B0, A0, Hs0, rfl, hsh0, hb0⟩ := open_book (hval 0 27 _ rfl rfl) h0
  obtain ⟨n1, rfl, rfl, rfl, w1⟩ := open_int Tryz.underlying3 (hval 1 3 _ rfl rfl) h1
  obtain ⟨s2, rfl⟩ := open_ratio (hval 2 29 _ rfl rfl) h2
  exact ⟨rfl, Hs0, hsh0, fun Post => s3 hsh0.glo (hb0.a (Sub.append_left _ _))⟩
theorem said3 : Rows.CanvasLinesSaid :=
  OpenClaim.holds_of_wide_leaving 3 Tryz.f3 rfl rfl rfl rfl rfl rfl rfl ⟨rfl, rfl, rfl, rfl, rfl⟩ rfl rfl rfl rfl rfl fnm3 Tryz.func3 closed3 inst3 wrap3
    (fun os started H enc _ => lifted3 os started H enc)
theorem card3 : Rows.CanvasLinesCardSaid :=
  ⟨Claim7.tied_new_at .later [.funcs] true (Claim7.new_of_sixth said3 (true, "2aeeda9e0b315eb022070bc88bc80a554dcd329f773ad53586088327a2b29430") false rfl ⟨rfl, rfl⟩ mi1 rfl
    (fun f fn hf hfn => by
      obtain rfl : f = 3 := Option.some.inj (hf.symm.trans fnm3)
      obtain rfl : fn = Tryz.f3 := Option.some.inj (hfn.symm.trans Tryz.func3)
      exact ⟨looks1.symm, wants_of wants3⟩)) wbt3, (fun _ h => by cases h), canvasLines_row_tie, (fun h => by cases h), goes_of fnm3 goes3⟩
end Go.Gx
namespace Go.Proofs.YtokdmiiejfmomaaGreatDoor
/-- THE CARD OF CanvasLines. -/
theorem canvasLines_card : Rows.CanvasLinesCardSaid := Go.Gx.card3
#print axioms canvasLines_card
end Go.Proofs.YtokdmiiejfmomaaGreatDoor
end
