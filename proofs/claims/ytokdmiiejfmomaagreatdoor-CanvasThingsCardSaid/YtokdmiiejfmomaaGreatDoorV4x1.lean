/-
  The law CanvasThings (Thing, Bend and Keeps agree with the specification for every book, eye, sights, slope and row): its tied card holds, for every input, without a condition.
-/
import Derived.Test.YtokdmiiejfmomaaGreatDoorW6
import Derived.SevenTiedAt
section
set_option linter.unusedSimpArgs false
set_option linter.unusedVariables false
namespace Go.Gx
open Go Go.Conc Go.Proofs Go.ChangeShapes Go.RowKit YtokdmiiejfmomaaGreatDoor
set_option maxRecDepth 100000
section
variable {H : Type} {enc : TypeId × Value → H} {W : World} {sp : Nat → Bool} {held : Bool}

/-- A fraction, a band, a sight, a mark, a list of fractions as an argument. -/
theorem open_ratio {r : Reach} {b0 : Nat} {v : Value} {d : DataW H} {ps : List MemPlace} (hval : Value.okWide Tryz.prog W r b0 29 v) (hd : DataW.Trod enc Tryz.prog W 0 sp held 29 v d ps) :
    ∃ s : R2, v = .agg #[.int .i64 s.1, .int .i64 s.2] := by
  obtain ⟨cs, rfl, hsz⟩ := Go.WideShapes.okWide_struct Tryz.underlying29 hval
  obtain ⟨fuel, hf⟩ := hd
  obtain ⟨l⟩ := cs
  obtain ⟨a, b, e⟩ := two Tryz.underlying29 ⟨rfl, rfl⟩ ⟨rfl, rfl⟩ (by kernel_rfl) (by kernel_rfl) hf
  have e' : l = [.int .i64 a, .int .i64 b] := e
  subst e'
  exact ⟨(a, b), rfl⟩
theorem threeS {n : Nat} {cs : List Value} {x : DataW H × List MemPlace} (h : DataW.trod enc Tryz.prog W 0 sp held n 44 cs = some x) : ∃ m : Int × R2, cs = [.int .i64 m.1, .int .i64 m.2.1, .int .i64 m.2.2] := by
  obtain ⟨xs, n, rfl, rfl, hl, hx, hf⟩ := DataW.trod_struct Tryz.underlying44 h
  rw [show Tryz.prog.cellsOf 44 = 3 by kernel_rfl] at hl
  match cs, hl, xs, hx with
  | [u, v, w], _, [y0, y1], _ =>
    have g0 : DataW.trod enc Tryz.prog W 0 sp held n 3 ((List.drop 0 [u, v, w]).take (Tryz.prog.cellsOf 3)) = some y0 := hf 0 _ rfl
    have g1 : DataW.trod enc Tryz.prog W 0 sp held n 29 ((List.drop 1 [u, v, w]).take (Tryz.prog.cellsOf 29)) = some y1 := hf 1 _ rfl
    rw [show Tryz.prog.cellsOf 3 = 1 by kernel_rfl] at g0
    rw [show Tryz.prog.cellsOf 29 = 2 by kernel_rfl] at g1
    obtain ⟨r, e', -⟩ := DataW.trod_int Tryz.underlying3 (x := y0) g0
    obtain ⟨a, b, e⟩ := two (x := y1) Tryz.underlying29 ⟨rfl, rfl⟩ ⟨rfl, rfl⟩ (by kernel_rfl) (by kernel_rfl) g1
    cases e
    cases e'
    exact ⟨(r, (a, b)), rfl⟩
theorem open_sight {r : Reach} {b0 : Nat} {v : Value} {d : DataW H} {ps : List MemPlace} (hval : Value.okWide Tryz.prog W r b0 44 v) (hd : DataW.Trod enc Tryz.prog W 0 sp held 44 v d ps) :
    ∃ m : Int × R2, v = .agg #[.int .i64 m.1, .int .i64 m.2.1, .int .i64 m.2.2] := by
  obtain ⟨cs, rfl, hsz⟩ := Go.WideShapes.okWide_struct Tryz.underlying44 hval
  obtain ⟨fuel, hf⟩ := hd
  obtain ⟨l⟩ := cs
  obtain ⟨m, e⟩ := threeS hf
  have e' : l = [.int .i64 m.1, .int .i64 m.2.1, .int .i64 m.2.2] := e
  subst e'
  exact ⟨m, rfl⟩
end
end Go.Gx
end

section
set_option linter.unusedSimpArgs false
set_option linter.unusedVariables false
namespace Go.Gx
open Go Go.Conc Go.Proofs

instance : BoI Tryz.prog 4 := ⟨by kernel_rfl⟩
end Go.Gx
end

section
set_option linter.unusedSimpArgs false
set_option linter.unusedVariables false
namespace Go.Gx
open Go Go.Conc Go.Proofs
variable {main : Bool}

/-! ### the reference's piece and point that is met, and that they are the program's -/
def pdR (p q s : R2) : Int := s.2 * (q.2 - p.2) - s.1 * (q.1 - p.1)
def pnR (p : R2) (eye : Int) (s : R2) : Int := eye * s.2 + s.1 * p.1 - s.2 * p.2
def spotR (p q : R2) (n d : Int) : Spot := (low (p.1 * d + (q.1 - p.1) * n) d, low (p.2 * d + (q.2 - p.2) * n) d)
def pieceR (p q : R2) (eye : Int) (s : R2) : Option Spot :=
  if pdR p q s = 0 ∧ pnR p eye s = 0 then some (if p.1 ≤ q.1 then (low p.1 1, low p.2 1) else (low q.1 1, low q.2 1))
  else if pdR p q s < 0 then (if -pnR p eye s < 0 ∨ -pdR p q s < -pnR p eye s then none else some (spotR p q (-pnR p eye s) (-pdR p q s)))
  else if pdR p q s = 0 ∨ pnR p eye s < 0 ∨ pdR p q s < pnR p eye s then none else some (spotR p q (pnR p eye s) (pdR p q s))
def stepR (o x : Option Spot) : Option Spot :=
  match x, o with
  | none, _ => o
  | some x, none => some x
  | some x, some y => if lessW x.1 y.1 then some x else some y
def accR (ps : List R2) (eye : Int) (s : R2) (j : Nat) : Option Spot := ((ps.zip ps.tail).take j).foldl (fun o x => stepR o (pieceR x.1 x.2 eye s)) none
def meetR (ps : List R2) (eye : Int) (s : R2) : Option Spot := (ps.zip ps.tail).foldl (fun o x => stepR o (pieceR x.1 x.2 eye s)) none
theorem low_one (n : Int) : low n 1 = (n, 1) := by
  have := low_mul (e := n) (d := 1) (by decide)
  rwa [Int.mul_one] at this
theorem low_neg {n d : Int} (hd : d ≠ 0) : low (-n) (-d) = low n d := by
  unfold low lowN lowD
  rw [Int.neg_gcd, Int.gcd_neg]
  by_cases h : d < 0
  · rw [if_pos h, if_pos h, if_neg (by omega), if_neg (by omega)]
  · rw [if_neg h, if_neg h, if_pos (by omega), if_pos (by omega), Int.neg_neg, Int.neg_neg]
theorem pn_off (p : R2) (eye : Int) (s : R2) : pnR p eye s = -offL p eye s := by
  unfold pnR offL
  rw [Int.sub_mul, Int.mul_comm s.2 p.2]
  omega
theorem pd_off (p q : R2) (eye : Int) (s : R2) : pdR p q s = offL q eye s - offL p eye s := by
  unfold pdR offL
  rw [Int.sub_mul, Int.sub_mul, Int.mul_sub, Int.mul_sub, Int.mul_comm s.2 p.2, Int.mul_comm s.2 q.2]
  omega
theorem lessW_pt {p : R2} {y : Spot} (hp : PtOk p) (hy : SpotOk y) : lessW (p.1, 1) y.1 = decide (p.1 * y.1.2 < y.1.1) := by
  obtain ⟨f1, f2, _, _⟩ := hy
  unfold PtOk at hp
  have a1 := mul_bd (a := p.1) (b := y.1.2) (A := 60) (B := 3000000) (by omega) (by omega)
  unfold lessW
  dsimp only
  rw [Int.mul_one, wr_in (by omega), wr_in (by omega)]
theorem lessW_pts {p q : R2} (hp : PtOk p) (hq : PtOk q) : lessW (p.1, 1) (q.1, 1) = decide (p.1 < q.1) := by
  unfold PtOk at hp hq
  unfold lessW
  dsimp only
  rw [Int.mul_one, Int.mul_one, wr_in (by omega), wr_in (by omega)]
theorem foldl_cross {p q : R2} {eye : Int} {s : R2} (hp : PtOk p) (hq : PtOk q) (he : EyeOk eye) (hs : SlOk s) (hpq : p.2 < q.2) {o : Option Spot} (ho : ∀ y, o = some y → SpotOk y) :
    (crossM p q eye s).foldl (fun o x => stepR o (some x)) o = stepR o (pieceR p q eye s) := by
  unfold crossM pieceR
  rw [if_neg (by rintro rfl; omega), pd_off p q eye s, pn_off]
  by_cases h0 : offL p eye s = 0 ∧ offL q eye s = 0
  · rw [if_pos h0, if_pos (by omega), low_one, low_one, low_one, low_one]
    simp only [List.foldl_cons, List.foldl_nil]
    cases o with
    | none =>
      simp only [stepR, lessW_pts hq hp]
      by_cases h : p.1 ≤ q.1
      · rw [if_pos h]
        simp [Int.not_lt.2 h]
      · rw [if_neg h]
        simp [Int.not_le.1 h]
    | some y =>
      have hy := ho y rfl
      simp only [stepR, lessW_pt hp hy]
      have y2 : 0 < y.1.2 := by have := hy.f2; omega
      by_cases h1 : p.1 * y.1.2 < y.1.1
      · simp only [h1, decide_true, if_true, lessW_pts hq hp]
        by_cases h : p.1 ≤ q.1
        · rw [if_pos h]
          simp [Int.not_lt.2 h, lessW_pt hp hy, h1]
        · rw [if_neg h]
          have h2 : q.1 * y.1.2 < y.1.1 := Int.lt_trans (Int.mul_lt_mul_of_pos_right (Int.not_le.1 h) y2) h1
          simp [Int.not_le.1 h, lessW_pt hq hy, h2]
      · simp only [h1, decide_false, lessW_pt hq hy]
        by_cases h : p.1 ≤ q.1
        · rw [if_pos h]
          have h2 : ¬ q.1 * y.1.2 < y.1.1 := by
            have := Int.mul_le_mul_of_nonneg_right h (Int.le_of_lt y2)
            omega
          simp [h2, lessW_pt hp hy, lessW_pt hq hy, h1]
        · rw [if_neg h]
          simp [lessW_pt hq hy]
  · have h0' : ¬ (offL q eye s - offL p eye s = 0 ∧ -offL p eye s = 0) := by omega
    rw [if_neg h0, if_neg h0']
    generalize offL p eye s = a at *
    generalize offL q eye s = b at *
    by_cases hd : b - a < 0
    · rw [if_pos hd]
      by_cases hc : a ≤ 0 ∧ 0 ≤ b ∨ 0 ≤ a ∧ b ≤ 0
      · have g : ¬ (- -a < 0 ∨ -(b - a) < - -a) := by omega
        rw [if_pos hc, if_neg g]
        unfold spotR
        rw [show - -a = a by omega, show -(b - a) = a - b by omega]
        rfl
      · have g : - -a < 0 ∨ -(b - a) < - -a := by omega
        rw [if_neg hc, if_pos g]
        rfl
    · rw [if_neg hd]
      by_cases hc : a ≤ 0 ∧ 0 ≤ b ∨ 0 ≤ a ∧ b ≤ 0
      · have g : ¬ (b - a = 0 ∨ -a < 0 ∨ b - a < -a) := by omega
        rw [if_pos hc, if_neg g]
        unfold spotR
        have e1 : a - b = -(b - a) := by omega
        have e2 : ∀ x y : Int, x * (a - b) + y * a = -(x * (b - a) + y * -a) := by
          intro x y
          rw [e1, Int.mul_neg, Int.mul_neg]
          omega
        rw [e2, e2, e1, low_neg (by omega), low_neg (by omega)]
        rfl
      · have g : b - a = 0 ∨ -a < 0 ∨ b - a < -a := by omega
        rw [if_neg hc, if_pos g]
        rfl
theorem spotR_ok {p q : R2} {eye : Int} {s : R2} (hp : PtOk p) (hq : PtOk q) (he : EyeOk eye) (hs : SlOk s) (hpq : p.2 < q.2) : ∀ x, pieceR p q eye s = some x → SpotOk x := by
  intro x hx
  have h := foldl_cross hp hq he hs hpq (o := none) (by simp)
  rw [hx] at h
  have key : ∀ (l : List Spot) (o : Option Spot), (∀ y ∈ l, SpotOk y) → (∀ y, o = some y → SpotOk y) → ∀ y, l.foldl (fun o x => stepR o (some x)) o = some y → SpotOk y := by
    intro l
    induction l with
    | nil => intro o _ ho; exact ho
    | cons a l ih =>
      intro o hl ho
      refine ih _ (fun y hy => hl y (List.mem_cons_of_mem _ hy)) ?_
      intro y hy
      cases o with
      | none => cases hy; exact hl _ (List.mem_cons_self ..)
      | some z =>
        simp only [stepR] at hy
        split at hy
        · cases hy; exact hl _ (List.mem_cons_self ..)
        · cases hy; exact ho _ rfl
  exact key _ none (crossM_ok hp hq he hs) (by simp) x h
theorem stepR_ok {o x : Option Spot} (ho : ∀ y, o = some y → SpotOk y) (hx : ∀ y, x = some y → SpotOk y) : ∀ y, stepR o x = some y → SpotOk y := by
  intro y hy
  cases x with
  | none => exact ho y hy
  | some x =>
    cases o with
    | none => exact hx y hy
    | some z =>
      simp only [stepR] at hy
      split at hy
      · exact hx y hy
      · exact ho y hy
theorem best_fold {l : List Spot} : ∀ (one : Spot), l.foldl (fun o x => stepR o (some x)) (some one) = some (bestM (fun a b => lessW a.1 b.1) one l) := by
  induction l with
  | nil => intro one; rfl
  | cons x l ih =>
    intro one
    rw [List.foldl_cons]
    unfold bestM
    rw [← ih]
    congr 1
    simp only [stepR]
    split <;> rfl
theorem pairs_ok {ps : List R2} (hp : ∀ p ∈ ps, PtOk p) (hpw : ps.Pairwise (fun p q => p.2 < q.2)) : ∀ x ∈ ps.zip ps.tail, PtOk x.1 ∧ PtOk x.2 ∧ x.1.2 < x.2.2 := by
  rintro ⟨p, q⟩ hx
  refine ⟨hp _ (List.of_mem_zip hx).1, hp _ (List.mem_of_mem_tail (List.of_mem_zip hx).2), ?_⟩
  obtain ⟨i, hi, e⟩ := List.getElem_of_mem hx
  simp only [List.getElem_zip, List.getElem_tail, Prod.mk.injEq] at e
  obtain ⟨rfl, rfl⟩ := e
  simp at hi
  exact List.pairwise_iff_getElem.1 hpw i (i + 1) (by omega) (by omega) (by omega)
/-- The reference meets the canvas where the program does. -/
theorem meetR_eq {ps : List R2} {eye : Int} {s : R2} (hp : ∀ p ∈ ps, PtOk p) (hpw : ps.Pairwise (fun p q => p.2 < q.2)) (he : EyeOk eye) (hs : SlOk s) : meetR ps eye s = meetM ps eye s := by
  have hall := pairs_ok hp hpw
  unfold meetR meetM piecesM
  generalize ps.zip ps.tail = l at hall
  have key : ∀ (l : List (R2 × R2)) (o : Option Spot), (∀ x ∈ l, PtOk x.1 ∧ PtOk x.2 ∧ x.1.2 < x.2.2) → (∀ y, o = some y → SpotOk y) →
      l.foldl (fun o x => stepR o (pieceR x.1 x.2 eye s)) o = (l.flatMap fun x => crossM x.1 x.2 eye s).foldl (fun o x => stepR o (some x)) o := by
    intro l
    induction l with
    | nil => intros; rfl
    | cons x l ih =>
      intro o hl ho
      obtain ⟨h1, h2, h3⟩ := hl x (List.mem_cons_self ..)
      rw [List.foldl_cons, List.flatMap_cons, List.foldl_append, foldl_cross h1 h2 he hs h3 ho]
      exact ih _ (fun y hy => hl y (List.mem_cons_of_mem _ hy)) (stepR_ok ho (spotR_ok h1 h2 he hs h3))
  rw [key l none hall (by simp)]
  cases h : (l.flatMap fun x => crossM x.1 x.2 eye s) with
  | nil => rfl
  | cons x r => exact best_fold x
theorem meetR_bk {B : Bk} {eye : Int} {s : R2} (hz : bookBar B = 0) (he : EyeOk eye) (hs : SlOk s) : meetR B.prof eye s = meetM B.prof eye s := meetR_eq (bounds_of_bar hz).2.2.1 (prof_pw hz) he hs
theorem accR_ok {B : Bk} {eye : Int} {s : R2} (hz : bookBar B = 0) (he : EyeOk eye) (hs : SlOk s) (j : Nat) : ∀ y, accR B.prof eye s j = some y → SpotOk y := by
  have hall := pairs_ok (bounds_of_bar hz).2.2.1 (prof_pw hz)
  unfold accR
  have key : ∀ (l : List (R2 × R2)) (o : Option Spot), (∀ x ∈ l, PtOk x.1 ∧ PtOk x.2 ∧ x.1.2 < x.2.2) → (∀ y, o = some y → SpotOk y) →
      ∀ y, l.foldl (fun o x => stepR o (pieceR x.1 x.2 eye s)) o = some y → SpotOk y := by
    intro l
    induction l with
    | nil => intro o _ ho; exact ho
    | cons x l ih =>
      intro o hl ho
      obtain ⟨h1, h2, h3⟩ := hl x (List.mem_cons_self ..)
      exact ih _ (fun y hy => hl y (List.mem_cons_of_mem _ hy)) (stepR_ok ho (spotR_ok h1 h2 he hs h3))
  exact key _ none (fun x hx => hall x (List.mem_of_mem_take hx)) (by simp)
theorem accR_succ {ps : List R2} {eye : Int} {s : R2} {j : Nat} (h : j + 1 < ps.length) : accR ps eye s (j + 1) = stepR (accR ps eye s j) (pieceR ps[j] ps[j + 1] eye s) := by
  unfold accR
  rw [List.take_add_one, List.foldl_append]
  have : (ps.zip ps.tail)[j]? = some (ps[j], ps[j + 1]) := by
    rw [List.getElem?_eq_getElem (by simp; omega), List.getElem_zip, List.getElem_tail]
  rw [this]
  rfl
theorem accR_all {ps : List R2} {eye : Int} {s : R2} {j : Nat} (h : ps.length ≤ j + 1) : accR ps eye s j = meetR ps eye s := by
  unfold accR meetR
  rw [List.take_of_length_le (by simp; omega)]
end Go.Gx
end

section
set_option linter.unusedSimpArgs false
set_option linter.unusedVariables false
namespace Go.Gx
open Go Go.Conc Go.Proofs
variable {main : Bool}

set_option maxRecDepth 100000 in
set_option maxHeartbeats 4000000 in
/-- onPiece (ref02) -/
theorem s155 (L : Lg Tryz.prog main) (H : Facts) {p q : R2} {eye : Int} {s : R2} (hp : PtOk p) (hq : PtOk q) (he : EyeOk eye) (hs : SlOk s) :
    Pure L 155 #[rV p, rV q, .int .i64 eye, rV s] H (.tuple #[rV ((pieceR p q eye s).getD ((0, 0), (0, 0))).1, rV ((pieceR p q eye s).getD ((0, 0), (0, 0))).2, .bool (pieceR p q eye s).isSome]) := by
  refine Spec.enter Tryz.func155 rfl (by simp [Tryz.f155]) fun c cs hc => ?_
  unfold PtOk at hp hq
  unfold EyeOk at he
  unfold SlOk at hs
  have b1 := mul_bd (a := s.2) (b := q.2 - p.2) (A := 10000) (B := 90) (by omega) (by omega)
  have b2 := mul_bd (a := s.1) (b := q.1 - p.1) (A := 10000) (B := 60) (by omega) (by omega)
  have b3 := mul_bd (a := eye) (b := s.2) (A := 90) (B := 10000) (by omega) (by omega)
  have b4 := mul_bd (a := s.1) (b := p.1) (A := 10000) (B := 60) (by omega) (by omega)
  have b5 := mul_bd (a := s.2) (b := p.2) (A := 10000) (B := 90) (by omega) (by omega)
  have hd : (pdR p q s).natAbs ≤ 1500000 := by unfold pdR; omega
  have hn : (pnR p eye s).natAbs ≤ 2400000 := by unfold pnR; omega
  have e1 : s.2 * (q.2 - p.2) - s.1 * (q.1 - p.1) = pdR p q s := rfl
  have e2 : eye * s.2 + s.1 * p.1 - s.2 * p.2 = pnR p eye s := rfl
  have m1 : Mid 1 := by omega
  refine At.seq (At.region ?_); refine At.bx rfl rfl rfl rfl rfl rfl rfl fun r4 => ?_; refine At.bx rfl rfl rfl rfl rfl rfl rfl fun r5 => ?_; refine At.bx rfl rfl rfl rfl rfl rfl rfl fun r7 => ?_; refine At.al rfl rfl rfl rfl rfl fun r8 => ?_; refine At.al rfl rfl rfl rfl rfl fun r9 => ?_; refine At.v rfl rfl rfl rfl rfl trivial ?_; refine At.regionEnd (At.seq ?_); refine At.drawJ hmix [] rfl ?_; refine Pool.fa 0 0 rfl rfl rfl rfl rfl rfl rfl rfl rfl ?_
  refine Pool.ld 3 1 rfl rfl rfl rfl rfl rfl rfl rfl rfl rfl rfl ?_; refine Pool.fa 0 2 rfl rfl rfl rfl rfl rfl rfl rfl rfl ?_; refine Pool.ld 4 3 rfl rfl rfl rfl rfl rfl rfl rfl rfl rfl rfl ?_; refine Pool.v 4 rfl rfl rfl rfl rfl rfl rfl (by omega) ?_; refine Pool.fa 1 5 rfl rfl rfl rfl rfl rfl rfl rfl rfl ?_; refine Pool.ld 3 6 rfl rfl rfl rfl rfl rfl rfl rfl rfl rfl rfl ?_; refine Pool.fa 1 7 rfl rfl rfl rfl rfl rfl rfl rfl rfl ?_; refine Pool.ld 4 8 rfl rfl rfl rfl rfl rfl rfl rfl rfl rfl rfl ?_
  refine Pool.v 9 rfl rfl rfl rfl rfl rfl rfl (by omega) ?_; refine Pool.v 10 rfl rfl rfl rfl rfl rfl rfl trivial ?_; refine Pool.v 11 rfl rfl rfl rfl rfl rfl rfl trivial ?_; refine pool_done rfl rfl ?_; refine At.regionEnd (At.seq (At.region ?_)); refine At.fa 1 rfl rfl rfl rfl rfl rfl rfl ?_; refine At.ld 2 rfl rfl rfl rfl rfl rfl rfl rfl rfl ?_; refine At.v rfl rfl rfl rfl rfl trivial ?_; refine At.v rfl rfl rfl rfl rfl (by omega) ?_; refine At.fa 0 rfl rfl rfl rfl rfl rfl rfl ?_
  refine At.ld 2 rfl rfl rfl rfl rfl rfl rfl rfl rfl ?_; refine At.v rfl rfl rfl rfl rfl trivial ?_; (iterate 2 refine At.v rfl rfl rfl rfl rfl (by omega) ?_); refine At.v rfl rfl rfl rfl rfl trivial ?_; refine At.regionEnd (At.seq (At.region ?_)); refine At.v rfl rfl rfl rfl rfl trivial ?_; refine At.fa 1 rfl rfl rfl rfl rfl rfl rfl ?_; refine At.ld 2 rfl rfl rfl rfl rfl rfl rfl rfl rfl ?_; refine At.v rfl rfl rfl rfl rfl (by omega) ?_; refine At.fa 0 rfl rfl rfl rfl rfl rfl rfl ?_
  refine At.ld 2 rfl rfl rfl rfl rfl rfl rfl rfl rfl ?_; refine At.fa 0 rfl rfl rfl rfl rfl rfl rfl ?_; refine At.ld 4 rfl rfl rfl rfl rfl rfl rfl rfl rfl ?_; (iterate 2 refine At.v rfl rfl rfl rfl rfl (by omega) ?_); refine At.fa 1 rfl rfl rfl rfl rfl rfl rfl ?_; refine At.ld 2 rfl rfl rfl rfl rfl rfl rfl rfl rfl ?_; refine At.fa 1 rfl rfl rfl rfl rfl rfl rfl ?_; refine At.ld 4 rfl rfl rfl rfl rfl rfl rfl rfl rfl ?_; (iterate 2 refine At.v rfl rfl rfl rfl rfl (by omega) ?_)
  refine At.v rfl rfl rfl rfl rfl trivial ?_; refine At.regionEnd (At.seq (At.seq (At.region ?_))); refine At.v rfl rfl rfl rfl rfl trivial ?_; refine At.cp rfl rfl rfl rfl rfl fun b51 h51 => ?_; refine At.v rfl rfl rfl rfl rfl trivial ?_
  rw [e1, e2]
  rw [e1] at h51
  unfold pieceR at hc
  clear e1 e2
  generalize pdR p q s = d at *
  generalize pnR p eye s = n at *
  clear b1 b2 b3 b4 b5
  have c1 := mul_bd (a := p.1) (b := d) (A := 60) (B := 1500000) (by omega) hd
  have c2 := mul_bd (a := p.2) (b := d) (A := 90) (B := 1500000) (by omega) hd
  have c3 := mul_bd (a := q.1 - p.1) (b := n) (A := 60) (B := 2400000) (by omega) hn
  have c4 := mul_bd (a := q.2 - p.2) (b := n) (A := 90) (B := 2400000) (by omega) hn
  cases b51
  · have g0 : ¬ (d = 0 ∧ n = 0) := by simp at h51; omega
    simp only [if_neg g0] at hc
    (iterate 2 refine At.un rfl rfl rfl rfl ?_); refine At.v rfl rfl rfl rfl rfl trivial ?_; refine At.regionEnd ?_; refine At.cond rfl ?_; refine At.skip (At.seq (At.seq (At.region ?_))); refine At.v rfl rfl rfl rfl rfl trivial ?_; refine At.cp rfl rfl rfl rfl rfl fun b74 h74 => ?_; refine At.regionEnd ?_
    cases b74
    · have g1 : ¬ d < 0 := by simpa using h74
      simp only [if_neg g1] at hc
      refine At.cond rfl ?_; refine At.skip (At.seq (At.seq (At.region ?_))); refine At.v rfl rfl rfl rfl rfl trivial ?_; refine At.cp rfl rfl rfl rfl rfl fun b80 h80 => ?_; refine At.v rfl rfl rfl rfl rfl trivial ?_
      cases b80
      · have d1 : d ≠ 0 := by simpa using h80
        refine At.v rfl rfl rfl rfl rfl trivial ?_; refine At.cp rfl rfl rfl rfl rfl fun b83 h83 => ?_; (iterate 2 refine At.v rfl rfl rfl rfl rfl trivial ?_)
        cases b83
        · have n1 : ¬ n < 0 := by simpa using h83
          (iterate 2 refine At.v rfl rfl rfl rfl rfl trivial ?_); refine At.cp rfl rfl rfl rfl rfl fun b88 h88 => ?_; refine At.v rfl rfl rfl rfl rfl trivial ?_; refine At.regionEnd ?_
          cases b88
          · have g2 : ¬ (d = 0 ∨ n < 0 ∨ d < n) := by simp at h88; omega
            simp only [if_neg g2] at hc
            refine At.cond rfl ?_; refine At.skip (At.seq ?_); refine At.drawJ hmix [1, 0] rfl ?_; refine Pool.fa 0 0 rfl rfl rfl rfl rfl rfl rfl rfl rfl ?_; refine Pool.ld 2 1 rfl rfl rfl rfl rfl rfl rfl rfl rfl rfl rfl ?_; refine Pool.v 2 rfl rfl rfl rfl rfl rfl rfl trivial ?_; refine Pool.v 3 rfl rfl rfl rfl rfl rfl rfl (by omega) ?_; refine Pool.v 4 rfl rfl rfl rfl rfl rfl rfl trivial ?_; refine Pool.v 5 rfl rfl rfl rfl rfl rfl rfl trivial ?_; refine Pool.v 6 rfl rfl rfl rfl rfl rfl rfl (by omega) ?_
            refine Pool.v 7 rfl rfl rfl rfl rfl rfl rfl (by omega) ?_; refine Pool.v 8 rfl rfl rfl rfl rfl rfl rfl trivial ?_; refine Pool.cq 9 rfl rfl rfl rfl rfl rfl rfl rfl rfl (fun H hs => s46 L H bs bs bs) ?_; refine Pool.fa 1 10 rfl rfl rfl rfl rfl rfl rfl rfl rfl ?_; refine Pool.ld 2 11 rfl rfl rfl rfl rfl rfl rfl rfl rfl rfl rfl ?_; refine Pool.v 12 rfl rfl rfl rfl rfl rfl rfl trivial ?_; refine Pool.v 13 rfl rfl rfl rfl rfl rfl rfl (by omega) ?_
            refine Pool.v 14 rfl rfl rfl rfl rfl rfl rfl trivial ?_; refine Pool.v 15 rfl rfl rfl rfl rfl rfl rfl trivial ?_; refine Pool.v 16 rfl rfl rfl rfl rfl rfl rfl (by omega) ?_; refine Pool.v 17 rfl rfl rfl rfl rfl rfl rfl (by omega) ?_; refine Pool.v 18 rfl rfl rfl rfl rfl rfl rfl trivial ?_; refine Pool.cq 19 rfl rfl rfl rfl rfl rfl rfl rfl rfl (fun H hs => s46 L H bs bs bs) ?_; refine Pool.st 1 20 rfl rfl rfl rfl rfl rfl rfl rfl rfl rfl rfl rfl rfl rfl rfl rfl rfl rfl sb ?_
            refine Pool.st 0 21 rfl rfl rfl rfl rfl rfl rfl rfl rfl rfl rfl rfl rfl rfl rfl rfl rfl rfl sb ?_; refine Pool.v 22 rfl rfl rfl rfl rfl rfl rfl trivial ?_; refine pool_done rfl rfl ?_; refine At.regionEnd ?_
            exact At.ret Tryz.func155 (.inr ⟨_, rfl⟩) rfl (.aggJ 1 rfl rfl rfl (.aggJ 0 rfl rfl rfl (.tmp rfl .nil))) (wk (hc _ _ (⟨by rfl, rfl⟩)))
          · have g2 : (d = 0 ∨ n < 0 ∨ d < n) := by simp at h88; omega
            simp only [if_pos g2] at hc
            refine At.cond rfl ?_; refine At.seq (At.region ?_); (iterate 2 refine At.q rfl rfl rfl rfl (q_build rfl rfl rfl) ?_); refine At.st 1 rfl rfl rfl rfl rfl rfl rfl rfl rfl rfl rfl rfl ?_; refine At.st 0 rfl rfl rfl rfl rfl rfl rfl rfl rfl rfl rfl rfl ?_; refine At.v rfl rfl rfl rfl rfl trivial ?_; refine At.regionEnd ?_
            exact At.ret Tryz.func155 (.inr ⟨_, rfl⟩) rfl (.aggJ 1 rfl rfl rfl (.aggJ 0 rfl rfl rfl (.tmp rfl .nil))) (wk (hc _ _ (⟨by rfl, rfl⟩)))
        · have g2 : (d = 0 ∨ n < 0 ∨ d < n) := by simp at h83; omega
          simp only [if_pos g2] at hc
          (iterate 3 refine At.un rfl rfl rfl rfl ?_); refine At.v rfl rfl rfl rfl rfl trivial ?_; refine At.regionEnd ?_; refine At.cond rfl ?_; refine At.seq (At.region ?_); (iterate 2 refine At.q rfl rfl rfl rfl (q_build rfl rfl rfl) ?_); refine At.st 1 rfl rfl rfl rfl rfl rfl rfl rfl rfl rfl rfl rfl ?_; refine At.st 0 rfl rfl rfl rfl rfl rfl rfl rfl rfl rfl rfl rfl ?_; refine At.v rfl rfl rfl rfl rfl trivial ?_; refine At.regionEnd ?_
          exact At.ret Tryz.func155 (.inr ⟨_, rfl⟩) rfl (.aggJ 1 rfl rfl rfl (.aggJ 0 rfl rfl rfl (.tmp rfl .nil))) (wk (hc _ _ (⟨by rfl, rfl⟩)))
      · have d1 : d = 0 := by simpa using h80
        have g2 : (d = 0 ∨ n < 0 ∨ d < n) := .inl d1
        simp only [if_pos g2] at hc
        (iterate 2 refine At.un rfl rfl rfl rfl ?_); (iterate 2 refine At.v rfl rfl rfl rfl rfl trivial ?_); (iterate 3 refine At.un rfl rfl rfl rfl ?_); refine At.v rfl rfl rfl rfl rfl trivial ?_; refine At.regionEnd ?_; refine At.cond rfl ?_; refine At.seq (At.region ?_); (iterate 2 refine At.q rfl rfl rfl rfl (q_build rfl rfl rfl) ?_); refine At.st 1 rfl rfl rfl rfl rfl rfl rfl rfl rfl rfl rfl rfl ?_; refine At.st 0 rfl rfl rfl rfl rfl rfl rfl rfl rfl rfl rfl rfl ?_
        refine At.v rfl rfl rfl rfl rfl trivial ?_; refine At.regionEnd ?_
        exact At.ret Tryz.func155 (.inr ⟨_, rfl⟩) rfl (.aggJ 1 rfl rfl rfl (.aggJ 0 rfl rfl rfl (.tmp rfl .nil))) (wk (hc _ _ (⟨by rfl, rfl⟩)))
    · have g1 : d < 0 := by simpa using h74
      simp only [if_pos g1] at hc
      have c5 : (p.1 * -d).natAbs ≤ 60 * 1500000 := by rw [Int.mul_neg, Int.natAbs_neg]; exact c1
      have c6 : (p.2 * -d).natAbs ≤ 90 * 1500000 := by rw [Int.mul_neg, Int.natAbs_neg]; exact c2
      have c7 : ((q.1 - p.1) * -n).natAbs ≤ 60 * 2400000 := by rw [Int.mul_neg, Int.natAbs_neg]; exact c3
      have c8 : ((q.2 - p.2) * -n).natAbs ≤ 90 * 2400000 := by rw [Int.mul_neg, Int.natAbs_neg]; exact c4
      refine At.cond rfl ?_; refine At.region ?_; refine At.v rfl rfl rfl rfl rfl trivial ?_; refine At.v rfl rfl rfl rfl rfl (by omega) ?_; refine At.v rfl rfl rfl rfl rfl trivial ?_; refine At.v rfl rfl rfl rfl rfl (by omega) ?_; (iterate 2 refine At.v rfl rfl rfl rfl rfl trivial ?_); refine At.regionEnd (At.seq (At.seq (At.region ?_))); refine At.v rfl rfl rfl rfl rfl trivial ?_; refine At.cp rfl rfl rfl rfl rfl fun b80 h80 => ?_; refine At.v rfl rfl rfl rfl rfl trivial ?_
      cases b80
      · have d1 : -d ≠ 0 := by simpa using h80
        refine At.v rfl rfl rfl rfl rfl trivial ?_; refine At.cp rfl rfl rfl rfl rfl fun b83 h83 => ?_; (iterate 2 refine At.v rfl rfl rfl rfl rfl trivial ?_)
        cases b83
        · have n1 : ¬ -n < 0 := by simpa using h83
          (iterate 2 refine At.v rfl rfl rfl rfl rfl trivial ?_); refine At.cp rfl rfl rfl rfl rfl fun b88 h88 => ?_; refine At.v rfl rfl rfl rfl rfl trivial ?_; refine At.regionEnd ?_
          cases b88
          · have g2 : ¬ (-n < 0 ∨ -d < -n) := by simp at h88; omega
            simp only [if_neg g2] at hc
            refine At.cond rfl ?_; refine At.skip (At.seq ?_); refine At.drawJ hmix [1, 0] rfl ?_; refine Pool.fa 0 0 rfl rfl rfl rfl rfl rfl rfl rfl rfl ?_; refine Pool.ld 2 1 rfl rfl rfl rfl rfl rfl rfl rfl rfl rfl rfl ?_; refine Pool.v 2 rfl rfl rfl rfl rfl rfl rfl trivial ?_; refine Pool.v 3 rfl rfl rfl rfl rfl rfl rfl (by omega) ?_; refine Pool.v 4 rfl rfl rfl rfl rfl rfl rfl trivial ?_; refine Pool.v 5 rfl rfl rfl rfl rfl rfl rfl trivial ?_; refine Pool.v 6 rfl rfl rfl rfl rfl rfl rfl (by omega) ?_
            refine Pool.v 7 rfl rfl rfl rfl rfl rfl rfl (by omega) ?_; refine Pool.v 8 rfl rfl rfl rfl rfl rfl rfl trivial ?_; refine Pool.cq 9 rfl rfl rfl rfl rfl rfl rfl rfl rfl (fun H hs => s46 L H bs bs bs) ?_; refine Pool.fa 1 10 rfl rfl rfl rfl rfl rfl rfl rfl rfl ?_; refine Pool.ld 2 11 rfl rfl rfl rfl rfl rfl rfl rfl rfl rfl rfl ?_; refine Pool.v 12 rfl rfl rfl rfl rfl rfl rfl trivial ?_; refine Pool.v 13 rfl rfl rfl rfl rfl rfl rfl (by omega) ?_
            refine Pool.v 14 rfl rfl rfl rfl rfl rfl rfl trivial ?_; refine Pool.v 15 rfl rfl rfl rfl rfl rfl rfl trivial ?_; refine Pool.v 16 rfl rfl rfl rfl rfl rfl rfl (by omega) ?_; refine Pool.v 17 rfl rfl rfl rfl rfl rfl rfl (by omega) ?_; refine Pool.v 18 rfl rfl rfl rfl rfl rfl rfl trivial ?_; refine Pool.cq 19 rfl rfl rfl rfl rfl rfl rfl rfl rfl (fun H hs => s46 L H bs bs bs) ?_; refine Pool.st 1 20 rfl rfl rfl rfl rfl rfl rfl rfl rfl rfl rfl rfl rfl rfl rfl rfl rfl rfl sb ?_
            refine Pool.st 0 21 rfl rfl rfl rfl rfl rfl rfl rfl rfl rfl rfl rfl rfl rfl rfl rfl rfl rfl sb ?_; refine Pool.v 22 rfl rfl rfl rfl rfl rfl rfl trivial ?_; refine pool_done rfl rfl ?_; refine At.regionEnd ?_
            exact At.ret Tryz.func155 (.inr ⟨_, rfl⟩) rfl (.aggJ 1 rfl rfl rfl (.aggJ 0 rfl rfl rfl (.tmp rfl .nil))) (wk (hc _ _ (⟨by rfl, rfl⟩)))
          · have g2 : (-n < 0 ∨ -d < -n) := by simp at h88; omega
            simp only [if_pos g2] at hc
            refine At.cond rfl ?_; refine At.seq (At.region ?_); (iterate 2 refine At.q rfl rfl rfl rfl (q_build rfl rfl rfl) ?_); refine At.st 1 rfl rfl rfl rfl rfl rfl rfl rfl rfl rfl rfl rfl ?_; refine At.st 0 rfl rfl rfl rfl rfl rfl rfl rfl rfl rfl rfl rfl ?_; refine At.v rfl rfl rfl rfl rfl trivial ?_; refine At.regionEnd ?_
            exact At.ret Tryz.func155 (.inr ⟨_, rfl⟩) rfl (.aggJ 1 rfl rfl rfl (.aggJ 0 rfl rfl rfl (.tmp rfl .nil))) (wk (hc _ _ (⟨by rfl, rfl⟩)))
        · have g2 : (-n < 0 ∨ -d < -n) := by simp at h83; omega
          simp only [if_pos g2] at hc
          (iterate 3 refine At.un rfl rfl rfl rfl ?_); refine At.v rfl rfl rfl rfl rfl trivial ?_; refine At.regionEnd ?_; refine At.cond rfl ?_; refine At.seq (At.region ?_); (iterate 2 refine At.q rfl rfl rfl rfl (q_build rfl rfl rfl) ?_); refine At.st 1 rfl rfl rfl rfl rfl rfl rfl rfl rfl rfl rfl rfl ?_; refine At.st 0 rfl rfl rfl rfl rfl rfl rfl rfl rfl rfl rfl rfl ?_; refine At.v rfl rfl rfl rfl rfl trivial ?_; refine At.regionEnd ?_
          exact At.ret Tryz.func155 (.inr ⟨_, rfl⟩) rfl (.aggJ 1 rfl rfl rfl (.aggJ 0 rfl rfl rfl (.tmp rfl .nil))) (wk (hc _ _ (⟨by rfl, rfl⟩)))
      · have d1 : -d = 0 := by simpa using h80
        omega
  · have d1 : d = 0 := by simpa using h51
    refine At.v rfl rfl rfl rfl rfl trivial ?_; refine At.cp rfl rfl rfl rfl rfl fun b54 h54 => ?_; refine At.v rfl rfl rfl rfl rfl trivial ?_; refine At.regionEnd ?_
    cases b54
    · have n1 : n ≠ 0 := by simpa using h54
      have g0 : ¬ (d = 0 ∧ n = 0) := by omega
      have g1 : ¬ d < 0 := by omega
      have g2 : d = 0 ∨ n < 0 ∨ d < n := by omega
      simp only [if_neg g0, if_neg g1, if_pos g2] at hc
      refine At.cond rfl ?_; refine At.skip (At.seq (At.seq (At.region ?_))); refine At.v rfl rfl rfl rfl rfl trivial ?_; refine At.cp rfl rfl rfl rfl rfl fun b74 h74 => ?_; refine At.regionEnd ?_
      have e74 : b74 = false := by rw [← h74]; simp; omega
      subst e74
      refine At.cond rfl ?_; refine At.skip (At.seq (At.seq (At.region ?_))); refine At.v rfl rfl rfl rfl rfl trivial ?_; refine At.cp rfl rfl rfl rfl rfl fun b80 h80 => ?_; refine At.v rfl rfl rfl rfl rfl trivial ?_
      have e80 : b80 = true := by rw [← h80]; simp; omega
      subst e80
      (iterate 2 refine At.un rfl rfl rfl rfl ?_); (iterate 2 refine At.v rfl rfl rfl rfl rfl trivial ?_); (iterate 3 refine At.un rfl rfl rfl rfl ?_); refine At.v rfl rfl rfl rfl rfl trivial ?_; refine At.regionEnd ?_; refine At.cond rfl ?_; refine At.seq (At.region ?_); (iterate 2 refine At.q rfl rfl rfl rfl (q_build rfl rfl rfl) ?_); refine At.st 1 rfl rfl rfl rfl rfl rfl rfl rfl rfl rfl rfl rfl ?_; refine At.st 0 rfl rfl rfl rfl rfl rfl rfl rfl rfl rfl rfl rfl ?_
      refine At.v rfl rfl rfl rfl rfl trivial ?_; refine At.regionEnd ?_
      exact At.ret Tryz.func155 (.inr ⟨_, rfl⟩) rfl (.aggJ 1 rfl rfl rfl (.aggJ 0 rfl rfl rfl (.tmp rfl .nil))) (wk (hc _ _ (⟨by rfl, rfl⟩)))
    · have g0 : d = 0 ∧ n = 0 := ⟨d1, by simpa using h54⟩
      simp only [if_pos g0] at hc
      refine At.cond rfl ?_; refine At.seq (At.seq (At.region ?_)); refine At.fa 0 rfl rfl rfl rfl rfl rfl rfl ?_; refine At.ld 4 rfl rfl rfl rfl rfl rfl rfl rfl rfl ?_; refine At.fa 0 rfl rfl rfl rfl rfl rfl rfl ?_; refine At.ld 3 rfl rfl rfl rfl rfl rfl rfl rfl rfl ?_; refine At.cp rfl rfl rfl rfl rfl fun b60 h60 => ?_; refine At.regionEnd ?_
      cases b60
      · have g1 : ¬ p.1 ≤ q.1 := by simpa using h60
        simp only [if_neg g1] at hc
        refine At.cond rfl ?_; refine At.skip (At.seq ?_); refine At.drawJ hmix [1, 0] rfl ?_; refine Pool.fa 0 0 rfl rfl rfl rfl rfl rfl rfl rfl rfl ?_; refine Pool.ld 1 1 rfl rfl rfl rfl rfl rfl rfl rfl rfl rfl rfl ?_; refine Pool.cq 2 rfl rfl rfl rfl rfl rfl rfl rfl rfl (fun H hs => s46 L H bs bs bs) ?_; refine Pool.fa 1 3 rfl rfl rfl rfl rfl rfl rfl rfl rfl ?_; refine Pool.ld 1 4 rfl rfl rfl rfl rfl rfl rfl rfl rfl rfl rfl ?_
        refine Pool.cq 5 rfl rfl rfl rfl rfl rfl rfl rfl rfl (fun H hs => s46 L H bs bs bs) ?_; refine Pool.st 1 6 rfl rfl rfl rfl rfl rfl rfl rfl rfl rfl rfl rfl rfl rfl rfl rfl rfl rfl sb ?_; refine Pool.st 0 7 rfl rfl rfl rfl rfl rfl rfl rfl rfl rfl rfl rfl rfl rfl rfl rfl rfl rfl sb ?_; refine Pool.v 8 rfl rfl rfl rfl rfl rfl rfl trivial ?_; refine pool_done rfl rfl ?_; refine At.regionEnd ?_
        exact At.ret Tryz.func155 (.inr ⟨_, rfl⟩) rfl (.aggJ 1 rfl rfl rfl (.aggJ 0 rfl rfl rfl (.tmp rfl .nil))) (wk (hc _ _ (⟨by rfl, rfl⟩)))
      · have g1 : p.1 ≤ q.1 := by simpa using h60
        simp only [if_pos g1] at hc
        refine At.cond rfl ?_; refine At.seq ?_; refine At.drawJ hmix [1, 0] rfl ?_; refine Pool.fa 0 0 rfl rfl rfl rfl rfl rfl rfl rfl rfl ?_; refine Pool.ld 2 1 rfl rfl rfl rfl rfl rfl rfl rfl rfl rfl rfl ?_; refine Pool.cq 2 rfl rfl rfl rfl rfl rfl rfl rfl rfl (fun H hs => s46 L H bs bs bs) ?_; refine Pool.fa 1 3 rfl rfl rfl rfl rfl rfl rfl rfl rfl ?_; refine Pool.ld 2 4 rfl rfl rfl rfl rfl rfl rfl rfl rfl rfl rfl ?_
        refine Pool.cq 5 rfl rfl rfl rfl rfl rfl rfl rfl rfl (fun H hs => s46 L H bs bs bs) ?_; refine Pool.st 1 6 rfl rfl rfl rfl rfl rfl rfl rfl rfl rfl rfl rfl rfl rfl rfl rfl rfl rfl sb ?_; refine Pool.st 0 7 rfl rfl rfl rfl rfl rfl rfl rfl rfl rfl rfl rfl rfl rfl rfl rfl rfl rfl sb ?_; refine Pool.v 8 rfl rfl rfl rfl rfl rfl rfl trivial ?_; refine pool_done rfl rfl ?_; refine At.regionEnd ?_
        exact At.ret Tryz.func155 (.inr ⟨_, rfl⟩) rfl (.aggJ 1 rfl rfl rfl (.aggJ 0 rfl rfl rfl (.tmp rfl .nil))) (wk (hc _ _ (⟨by rfl, rfl⟩)))
end Go.Gx
end

section
set_option linter.unusedSimpArgs false
set_option linter.unusedVariables false
namespace Go.Gx
open Go Go.Conc Go.Proofs
variable {main : Bool}

set_option maxRecDepth 100000 in
set_option maxHeartbeats 4000000 in
/-- MeetOf (ref02) -/
theorem s95 (L : Lg Tryz.prog main) (H : Facts) {B : Bk} {A : BkA} {eye : Int} {s : R2} (hB : BkR H B A) (hz : bookBar B = 0) (he : EyeOk eye) (hs : SlOk s) :
    Pure L 95 #[bkV B A, .int .i64 eye, rV s] H (.tuple #[rV ((meetM B.prof eye s).getD ((0, 0), (0, 0))).1, rV ((meetM B.prof eye s).getD ((0, 0), (0, 0))).2, .bool (meetM B.prof eye s).isSome]) := by
  refine Spec.enter Tryz.func95 rfl (by simp [Tryz.f95]) fun c cs hc => ?_
  rw [← meetR_bk hz he hs] at hc
  have hok := accR_ok (s := s) hz he hs
  have hpt := (bounds_of_bar hz).2.2.1
  have hl5 := (bounds_of_bar hz).2.1
  have hl2 := (bounds_of_bar hz).1
  have hrp := hB.p
  obtain ⟨prof, size, lo, hi, marks⟩ := B
  obtain ⟨pa, pc, ma, mc⟩ := A
  simp only at hrp hpt hl5 hl2 hc hok
  refine At.seq (At.region ?_); refine At.bx rfl rfl rfl rfl rfl rfl rfl fun r3 => ?_; refine At.bx rfl rfl rfl rfl rfl rfl rfl fun r5 => ?_; refine At.al rfl rfl rfl rfl rfl fun r6 => ?_; refine At.al rfl rfl rfl rfl rfl fun r7 => ?_; refine At.v rfl rfl rfl rfl rfl trivial ?_; refine At.regionEnd (At.seq (At.region ?_)); refine At.al rfl rfl rfl rfl rfl fun r9 => ?_; refine At.al rfl rfl rfl rfl rfl fun r10 => ?_; refine At.regionEnd (At.seq (At.region ?_))
  refine At.v rfl rfl rfl rfl rfl trivial ?_; refine At.regionEnd (At.seq (At.seq (At.region ?_))); refine At.v rfl rfl rfl rfl rfl trivial ?_; refine At.regionEnd ?_; refine At.block ?_
  refine At.lpk (X := { j : Nat // j ≤ prof.length - 1 }) [1, 3, 5, 6, 7, 8, 9, 10] (fun x => [(12, .int .i64 (x.1 : Int)), (11, .bool (accR prof eye s x.1).isSome)]) (fun x => .own r10 (.cells (List.toArray (c2 ((accR prof eye s x.1).getD ((0, 0), (0, 0))).2)) 29 (0, 0)) :: .own r9 (.cells (List.toArray (c2 ((accR prof eye s x.1).getD ((0, 0), (0, 0))).1)) 29 (0, 0)) :: .own r7 (.cells #[.int .i64 0, .int .i64 0] 29 (0, 0)) :: .own r6 (.cells #[.int .i64 0, .int .i64 0] 29 (0, 0)) :: .own r5 (.cells (List.toArray (c2 s)) 29 (0, 0)) :: .own r3 (.cells (List.toArray (bkC ⟨prof, size, lo, hi, marks⟩ ⟨pa, pc, ma, mc⟩)) 27 (0, 0)) :: H) (fun x => prof.length - 1 - x.1) (⟨0, Nat.zero_le _⟩) rfl ?_ (by repeat (first | exact trivial | refine ⟨rfl, ?_⟩)) sb
  rintro ⟨j, hj⟩ again
  simp only at again ⊢
  refine At.seq (At.seq (At.region ?_)); refine At.v rfl rfl rfl rfl rfl trivial ?_; refine At.v rfl rfl rfl rfl rfl (by omega) ?_; refine At.fa 0 rfl rfl rfl rfl rfl rfl rfl ?_; refine At.ld 5 rfl rfl rfl rfl rfl rfl rfl rfl rfl ?_; refine At.ln rfl rfl rfl rfl rfl rfl rfl rfl ?_; refine At.cp rfl rfl rfl rfl rfl fun b21 h21 => ?_; refine At.regionEnd ?_
  cases b21
  · have e : j = prof.length - 1 := by simp at h21; omega
    subst e
    rw [accR_all (by omega)]
    refine At.cond rfl ?_; refine At.exit rfl ?_; refine At.seq ?_; refine At.drawJ hmix [3, 2] rfl ?_; refine Pool.ld 1 0 rfl rfl rfl rfl rfl rfl rfl rfl rfl rfl rfl ?_; refine Pool.ld 0 1 rfl rfl rfl rfl rfl rfl rfl rfl rfl rfl rfl ?_; refine Pool.v 2 rfl rfl rfl rfl rfl rfl rfl trivial ?_; refine Pool.st 3 3 rfl rfl rfl rfl rfl rfl rfl rfl rfl rfl rfl rfl rfl rfl rfl rfl rfl rfl sb ?_; refine Pool.st 2 4 rfl rfl rfl rfl rfl rfl rfl rfl rfl rfl rfl rfl rfl rfl rfl rfl rfl rfl sb ?_
    refine Pool.v 5 rfl rfl rfl rfl rfl rfl rfl trivial ?_; refine pool_done rfl rfl ?_; refine At.regionEnd ?_
    exact At.ret Tryz.func95 (.inr ⟨_, rfl⟩) rfl (.aggJ 3 rfl rfl rfl (.aggJ 2 rfl rfl rfl (.tmp rfl .nil))) (wk (hc _ _ (⟨by rfl, rfl⟩)))
  · have hlt : j + 1 < prof.length := by simp at h21; omega
    have hlt' : j < prof.length := by omega
    obtain ⟨b, off, rfl, hc0⟩ := hrp.el (List.getElem?_eq_getElem hlt')
    obtain ⟨b', off', e', hc1⟩ := hrp.el (List.getElem?_eq_getElem hlt)
    cases e'
    have p0 := hpt _ (List.getElem_mem hlt')
    have p1 := hpt _ (List.getElem_mem hlt)
    have hsc := accR_succ (eye := eye) (s := s) hlt
    refine At.cond rfl ?_; refine At.skip (At.seq ?_); refine At.block ?_; refine At.seq ?_; refine At.drawJ hmix [] rfl ?_; refine Pool.fa 0 0 rfl rfl rfl rfl rfl rfl rfl rfl rfl ?_; refine Pool.ld 5 1 rfl rfl rfl rfl rfl rfl rfl rfl rfl rfl rfl ?_; refine Pool.v 2 rfl rfl rfl rfl rfl rfl rfl trivial ?_; refine Pool.q 3 rfl rfl rfl rfl rfl (q_ia rfl rfl rfl (by assumption)) rfl ?_; refine Pool.ldc 4 rfl rfl rfl rfl rfl rfl rfl hc0.a rfl rfl rfl ?_
    refine Pool.fa 0 5 rfl rfl rfl rfl rfl rfl rfl rfl rfl ?_; refine Pool.ld 5 6 rfl rfl rfl rfl rfl rfl rfl rfl rfl rfl rfl ?_; refine Pool.v 7 rfl rfl rfl rfl rfl rfl rfl trivial ?_; refine Pool.v 8 rfl rfl rfl rfl rfl rfl rfl (by omega) ?_; refine Pool.q 9 rfl rfl rfl rfl rfl (q_ia rfl rfl rfl (by assumption)) rfl ?_; refine Pool.ldc 10 rfl rfl rfl rfl rfl rfl rfl hc1.a rfl rfl rfl ?_; refine Pool.v 11 rfl rfl rfl rfl rfl rfl rfl trivial ?_
    refine Pool.ld 4 12 rfl rfl rfl rfl rfl rfl rfl rfl rfl rfl rfl ?_; refine Pool.cq 13 rfl rfl rfl rfl rfl rfl rfl rfl rfl (fun H hs => s155 L H bs bs bs bs) ?_; refine Pool.v 14 rfl rfl rfl rfl rfl rfl rfl trivial ?_; refine Pool.v 15 rfl rfl rfl rfl rfl rfl rfl trivial ?_; refine Pool.v 16 rfl rfl rfl rfl rfl rfl rfl trivial ?_; refine Pool.v 17 rfl rfl rfl rfl rfl rfl rfl trivial ?_; refine Pool.fl 18 rfl rfl rfl rfl rfl rfl rfl rfl rfl rfl ?_
    refine Pool.al 19 rfl rfl rfl rfl rfl rfl rfl rfl rfl rfl rfl sb fun r14 => ?_; refine Pool.v 22 rfl rfl rfl rfl rfl rfl rfl trivial ?_; refine pool_take rfl rfl rfl fun rf18 => ?_; refine Pool.st 0 20 rfl rfl rfl rfl rfl rfl rfl rfl rfl rfl rfl rfl rfl rfl rfl rfl rfl rfl sb ?_; refine Pool.st 1 21 rfl rfl rfl rfl rfl rfl rfl rfl rfl rfl rfl rfl rfl rfl rfl rfl rfl rfl sb ?_; refine pool_done rfl rfl ?_; refine At.regionEnd (At.seq (At.region ?_))
    (iterate 2 refine At.v rfl rfl rfl rfl rfl trivial ?_)
    have hpo := spotR_ok p0 p1 he hs (Int.lt_of_not_ge fun h => by
      have := List.pairwise_iff_getElem.1 (prof_pw hz) j (j + 1) (by simpa using hlt') (by simpa using hlt) (by omega)
      simp only at this
      omega)
    have ag := again ⟨j + 1, by omega⟩ (by simp; omega)
    simp only [hsc] at ag
    cases hpc : pieceR prof[j] prof[j + 1] eye s with
    | none =>
      simp only [hpc, stepR] at ag
      (iterate 7 refine At.un rfl rfl rfl rfl ?_); refine At.v rfl rfl rfl rfl rfl trivial ?_; refine At.regionEnd ?_; refine At.cond rfl ?_; refine At.skip ?_; refine At.inBlock ?_; refine At.region ?_; refine At.v rfl rfl rfl rfl rfl trivial ?_; refine At.v rfl rfl rfl rfl rfl (by omega) ?_; refine At.v rfl rfl rfl rfl rfl trivial ?_; refine At.regionEnd ?_
      refine At.tA (ag)
    | some x =>
      cases hacc : accR prof eye s j with
      | none =>
        simp only [hpc, hacc, stepR, Option.isSome, Option.getD] at ag
        (iterate 3 refine At.v rfl rfl rfl rfl rfl trivial ?_); (iterate 3 refine At.un rfl rfl rfl rfl ?_); (iterate 2 refine At.v rfl rfl rfl rfl rfl trivial ?_); refine At.regionEnd ?_; refine At.cond rfl ?_; refine At.drawJ hmix [3, 2] rfl ?_; refine Pool.ld 0 0 rfl rfl rfl rfl rfl rfl rfl rfl rfl rfl rfl ?_; refine Pool.ld 1 1 rfl rfl rfl rfl rfl rfl rfl rfl rfl rfl rfl ?_; refine Pool.st 3 2 rfl rfl rfl rfl rfl rfl rfl rfl rfl rfl rfl rfl rfl rfl rfl rfl rfl rfl sb ?_
        refine Pool.st 2 3 rfl rfl rfl rfl rfl rfl rfl rfl rfl rfl rfl rfl rfl rfl rfl rfl rfl rfl sb ?_; refine Pool.v 4 rfl rfl rfl rfl rfl rfl rfl trivial ?_; refine pool_done rfl rfl ?_; refine At.regionEnd ?_; refine At.inBlock ?_; refine At.region ?_; refine At.v rfl rfl rfl rfl rfl trivial ?_; refine At.v rfl rfl rfl rfl rfl (by omega) ?_; refine At.v rfl rfl rfl rfl rfl trivial ?_; refine At.regionEnd ?_
        refine At.tA (ag)
      | some y =>
        simp only [hpc, hacc, stepR] at ag
        (iterate 3 refine At.v rfl rfl rfl rfl rfl trivial ?_); refine At.ld 0 rfl rfl rfl rfl rfl rfl rfl rfl rfl ?_; refine At.ld 3 rfl rfl rfl rfl rfl rfl rfl rfl rfl ?_; refine At.cqb rfl rfl rfl rfl rfl rfl rfl rfl (s103 L _) fun b49 h49 => ?_; (iterate 2 refine At.v rfl rfl rfl rfl rfl trivial ?_); refine At.regionEnd ?_
        cases b49
        · have e49 : lessW x.1 y.1 = false := h49
          simp only [e49, if_false, Option.isSome, Option.getD, Bool.false_eq_true] at ag
          refine At.cond rfl ?_; refine At.skip ?_; refine At.inBlock ?_; refine At.region ?_; refine At.v rfl rfl rfl rfl rfl trivial ?_; refine At.v rfl rfl rfl rfl rfl (by omega) ?_; refine At.v rfl rfl rfl rfl rfl trivial ?_; refine At.regionEnd ?_
          refine At.tA (ag)
        · have e49 : lessW x.1 y.1 = true := h49
          simp only [e49, if_true, Option.isSome, Option.getD] at ag
          refine At.cond rfl ?_; refine At.drawJ hmix [3, 2] rfl ?_; refine Pool.ld 0 0 rfl rfl rfl rfl rfl rfl rfl rfl rfl rfl rfl ?_; refine Pool.ld 1 1 rfl rfl rfl rfl rfl rfl rfl rfl rfl rfl rfl ?_; refine Pool.st 3 2 rfl rfl rfl rfl rfl rfl rfl rfl rfl rfl rfl rfl rfl rfl rfl rfl rfl rfl sb ?_; refine Pool.st 2 3 rfl rfl rfl rfl rfl rfl rfl rfl rfl rfl rfl rfl rfl rfl rfl rfl rfl rfl sb ?_; refine Pool.v 4 rfl rfl rfl rfl rfl rfl rfl trivial ?_; refine pool_done rfl rfl ?_; refine At.regionEnd ?_
          refine At.inBlock ?_; refine At.region ?_; refine At.v rfl rfl rfl rfl rfl trivial ?_; refine At.v rfl rfl rfl rfl rfl (by omega) ?_; refine At.v rfl rfl rfl rfl rfl trivial ?_; refine At.regionEnd ?_
          refine At.tA (ag)
end Go.Gx
end

section
set_option linter.unusedSimpArgs false
set_option linter.unusedVariables false
namespace Go.Gx
open Go Go.Conc Go.Proofs
variable {main : Bool}

/-- RowOf (ref02), a book's -/
theorem s97 (L : Lg Tryz.prog main) (H : Facts) {B : Bk} {A : BkA} {h : R2} (hB : BkR H B A) (hz : bookBar B = 0) (hh : HighOk h) : Pure L 97 #[bkV B A, rV h] H (.tuple #[.int .i64 (squareM B h).1, rV (squareM B h).2]) := by
  have hb := bounds_of_bar hz
  have h0 : 0 < B.prof.length := by omega
  obtain ⟨b, off, e, hc⟩ := hB.p.el (List.getElem?_eq_getElem h0)
  obtain ⟨pa, pc, ma, mc⟩ := A
  simp only at e
  subst e
  have hp := hb.2.2.1 _ (List.getElem_mem h0)
  obtain ⟨hn, hd1, hd2⟩ := hh
  have ef : footM B = B.prof[0].2 := by
    unfold footM
    rw [List.headD_eq_head?_getD, List.head?_eq_getElem?, List.getElem?_eq_getElem h0]
    rfl
  unfold PtOk at hp
  have m1 := mul_bd (a := B.size) (b := h.2) (A := 30) (B := 3000000) (by omega) (by omega)
  have m2 := mul_bd (a := B.prof[0].2) (b := h.2) (A := 90) (B := 3000000) (by omega) (by omega)
  have m3 : B.size * h.2 ≠ 0 := Int.mul_ne_zero (by omega) (by omega)
  have m4 : ((h.1 - B.prof[0].2 * h.2).tdiv (B.size * h.2)).natAbs ≤ 800000000 := by
    rw [Int.natAbs_tdiv]
    exact Nat.le_trans (Nat.div_le_self _ _) (by omega)
  have m5 := mul_bd (a := (h.1 - B.prof[0].2 * h.2).tdiv (B.size * h.2)) (b := B.size) (A := 800000000) (B := 30) m4 (by omega)
  have m6 : ((h.1 - B.prof[0].2 * h.2).tdiv (B.size * h.2) * B.size * h.2).natAbs ≤ 800000000 * 30 * 3000000 := mul_bd m5 (by omega)
  have := r97 L H (n := B.prof.length) (cap := pc) (m := B.marks.length) (mc := mc) (ma := ma) (size := B.size) (lo := B.lo) (hi := B.hi) (hn := h.1) (hd := h.2) (h0 := B.prof[0].2) h0 (cells_sub hc 1 1 rfl) (by omega) (by omega) (by omega) m3 (by omega) (by omega)
  unfold squareM
  rw [ef]
  exact this
set_option maxRecDepth 100000 in
set_option maxHeartbeats 4000000 in
/-- RowIn (ref02) -/
theorem s115 (L : Lg Tryz.prog main) (H : Facts) {B : Bk} {A : BkA} {eye : Int} {s : R2} (hB : BkR H B A) (hz : bookBar B = 0) (he : EyeOk eye) (hs : SlOk s) : Pure L 115 #[bkV B A, .int .i64 eye, rV s] H (.int .i64 (rowM B eye s)) := by
  refine Spec.enter Tryz.func115 rfl (by simp [Tryz.f115]) fun c cs hc => ?_
  have hp := profOk_of hz
  refine At.seq (At.region ?_); refine At.bx rfl rfl rfl rfl rfl rfl rfl fun r3 => ?_; refine At.bx rfl rfl rfl rfl rfl rfl rfl fun r5 => ?_; refine At.v rfl rfl rfl rfl rfl trivial ?_; refine At.regionEnd (At.seq (At.region ?_)); refine At.ld 1 rfl rfl rfl rfl rfl rfl rfl rfl rfl ?_; refine At.v rfl rfl rfl rfl rfl trivial ?_; refine At.ld 0 rfl rfl rfl rfl rfl rfl rfl rfl rfl ?_; refine At.cq rfl rfl rfl rfl rfl rfl rfl rfl (s95 L _ bs bs bs bs) ?_
  (iterate 4 refine At.v rfl rfl rfl rfl rfl trivial ?_); refine At.al rfl rfl rfl rfl rfl fun r7 => ?_; refine At.al rfl rfl rfl rfl rfl fun r8 => ?_; refine At.st 1 rfl rfl rfl rfl rfl rfl rfl rfl rfl rfl rfl rfl ?_; refine At.st 0 rfl rfl rfl rfl rfl rfl rfl rfl rfl rfl rfl rfl ?_; refine At.v rfl rfl rfl rfl rfl trivial ?_; refine At.regionEnd (At.seq (At.seq (At.region ?_))); (iterate 2 refine At.v rfl rfl rfl rfl rfl trivial ?_); refine At.regionEnd ?_
  cases hm : meetM B.prof eye s with
  | none =>
    rw [rowM_none hm] at hc
    refine At.cond rfl ?_; refine At.seq (At.region ?_); refine At.v rfl rfl rfl rfl rfl trivial ?_; refine At.regionEnd ?_
    exact At.ret Tryz.func115 (.inr ⟨_, rfl⟩) rfl (.tmp rfl .nil) (wk (hc _ _ (⟨by rfl, rfl⟩)))
  | some x =>
    have hx := highOk_of (meetM_ok hp.2 he hs hm)
    rw [rowM_some hm] at hc
    refine At.cond rfl ?_; refine At.skip (At.seq (At.region ?_)); refine At.ld 3 rfl rfl rfl rfl rfl rfl rfl rfl rfl ?_; refine At.ld 0 rfl rfl rfl rfl rfl rfl rfl rfl rfl ?_; refine At.cq rfl rfl rfl rfl rfl rfl rfl rfl (s97 L _ bs bs bs) ?_; (iterate 3 refine At.v rfl rfl rfl rfl rfl trivial ?_); refine At.al rfl rfl rfl rfl rfl fun r11 => ?_; refine At.v rfl rfl rfl rfl rfl trivial ?_; refine At.st 0 rfl rfl rfl rfl rfl rfl rfl rfl rfl rfl rfl rfl ?_; refine At.regionEnd (At.seq (At.region ?_))
    (iterate 2 refine At.v rfl rfl rfl rfl rfl trivial ?_); refine At.regionEnd ?_
    exact At.ret Tryz.func115 (.inr ⟨_, rfl⟩) rfl (.tmp rfl .nil) (wk (hc _ _ (⟨by rfl, rfl⟩)))
end Go.Gx
end

section
set_option linter.unusedSimpArgs false
set_option linter.unusedVariables false
namespace Go.Gx
open Go Go.Conc Go.Proofs
variable {main : Bool}

end Go.Gx
end

section
/-
  LOGIC G: what a call has made is put behind the cells that one knows by their places.
-/
set_option linter.unusedSimpArgs false
set_option linter.unusedVariables false
namespace Go.Gx
open Go Go.Conc
/-- 'Y' is 'sf ++ X' with the own cells that stand first in 'X' ahead of 'sf'. -/
class Back (sf X : Facts) (Y : outParam Facts) : Prop where
  s : Sub Y (sf ++ X)
instance (priority := low) backNil {sf X : Facts} : Back sf X (sf ++ X) := ⟨Sub.refl _⟩
instance backCons {sf X Y : Facts} {r : Nat} {o : Obj} [h : Back sf X Y] : Back sf (.own r o :: X) (.own r o :: Y) :=
  ⟨(Sub.cons _ h.s).trans (Sub.of_perm List.perm_middle.symm)⟩
theorem At.back {P : Program} {main : Bool} {L : Lg P main} {f : FuncId} {ro : Option Nat} {ds : Dz} {cs : List Frame} {n : Nat} {E : Env} {k : List Item} {sf X Y : Facts} [hb : Back sf X Y] (h : At L f ro ds cs n E Y k) : At L f ro ds cs n E (sf ++ X) k :=
  h.weakH hb.s
end Go.Gx
end

section
set_option linter.unusedSimpArgs false
set_option linter.unusedVariables false
namespace Go.Gx
open Go Go.Conc Go.Proofs

end Go.Gx
end

section
set_option linter.unusedSimpArgs false
set_option linter.unusedVariables false
namespace Go.Gx
open Go Go.Conc Go.Proofs
variable {main : Bool}

set_option maxRecDepth 100000 in
set_option maxHeartbeats 4000000 in
/-- CheckSights (ref02) -/
theorem s56 (L : Lg Tryz.prog main) (H : Facts) {f t : Int × R2} : Pure L 56 #[.agg (List.toArray (cI3 f)), .agg (List.toArray (cI3 t))] H (.int .i64 (sightsBar f t)) := by
  refine Spec.enter Tryz.func56 rfl (by simp [Tryz.f56]) fun c cs hc => ?_
  unfold sightsBar at hc
  refine At.seq (At.region ?_); refine At.bx rfl rfl rfl rfl rfl rfl rfl fun r2 => ?_; refine At.bx rfl rfl rfl rfl rfl rfl rfl fun r3 => ?_; refine At.v rfl rfl rfl rfl rfl trivial ?_; refine At.regionEnd (At.seq (At.seq (At.region ?_))); refine At.fa 1 rfl rfl rfl rfl rfl rfl rfl ?_; refine At.ld 1 rfl rfl rfl rfl rfl rfl rfl rfl rfl ?_; refine At.cq rfl rfl rfl rfl rfl rfl rfl rfl (s47 L _) ?_; refine At.v rfl rfl rfl rfl rfl trivial ?_; refine At.regionEnd (At.seq (At.region ?_))
  refine At.v rfl rfl rfl rfl rfl trivial ?_; refine At.cp rfl rfl rfl rfl rfl fun b11 h11 => ?_; refine At.regionEnd ?_
  cases b11
  rotate_left
  · have e : slopeBar f.2.1 f.2.2 ≠ 0 := by simpa using h11
    simp only [if_pos e] at hc
    refine At.cond rfl ?_; refine At.seq (At.region ?_); (iterate 2 refine At.v rfl rfl rfl rfl rfl trivial ?_); refine At.regionEnd ?_
    exact At.ret Tryz.func56 (.inr ⟨_, rfl⟩) rfl (.tmp rfl .nil) (wk (hc _ _ (⟨by rfl, rfl⟩)))
  have e1 : ¬ slopeBar f.2.1 f.2.2 ≠ 0 := by simpa using h11
  simp only [if_neg e1] at hc
  refine At.cond rfl ?_; refine At.skip (At.seq (At.seq (At.region ?_))); refine At.fa 1 rfl rfl rfl rfl rfl rfl rfl ?_; refine At.ld 0 rfl rfl rfl rfl rfl rfl rfl rfl rfl ?_; refine At.cq rfl rfl rfl rfl rfl rfl rfl rfl (s47 L _) ?_; refine At.v rfl rfl rfl rfl rfl trivial ?_; refine At.regionEnd (At.seq (At.region ?_)); refine At.v rfl rfl rfl rfl rfl trivial ?_; refine At.cp rfl rfl rfl rfl rfl fun b17 h17 => ?_; refine At.regionEnd ?_
  cases b17
  rotate_left
  · have e : slopeBar t.2.1 t.2.2 ≠ 0 := by simpa using h17
    simp only [if_pos e] at hc
    refine At.cond rfl ?_; refine At.seq (At.region ?_); (iterate 2 refine At.v rfl rfl rfl rfl rfl trivial ?_); refine At.regionEnd ?_
    exact At.ret Tryz.func56 (.inr ⟨_, rfl⟩) rfl (.tmp rfl .nil) (wk (hc _ _ (⟨by rfl, rfl⟩)))
  have e2 : ¬ slopeBar t.2.1 t.2.2 ≠ 0 := by simpa using h17
  simp only [if_neg e2] at hc
  refine At.cond rfl ?_; refine At.skip (At.seq (At.seq (At.region ?_))); refine At.fa 0 rfl rfl rfl rfl rfl rfl rfl ?_; refine At.ld 1 rfl rfl rfl rfl rfl rfl rfl rfl rfl ?_; refine At.cqb rfl rfl rfl rfl rfl rfl rfl rfl (s43 L _) fun b21 h21 => ?_; (iterate 2 refine At.v rfl rfl rfl rfl rfl trivial ?_)
  cases b21
  · have e : ¬ (0 ≤ f.1 ∧ f.1 ≤ 12) ∨ ¬ (0 ≤ t.1 ∧ t.1 ≤ 12) := .inl (by simpa using h21)
    simp only [if_pos e] at hc
    (iterate 4 refine At.un rfl rfl rfl rfl ?_); refine At.v rfl rfl rfl rfl rfl trivial ?_; refine At.regionEnd ?_; refine At.cond rfl ?_; refine At.seq (At.region ?_); refine At.v rfl rfl rfl rfl rfl trivial ?_; refine At.regionEnd ?_
    exact At.ret Tryz.func56 (.inr ⟨_, rfl⟩) rfl (.tmp rfl .nil) (wk (hc _ _ (⟨by rfl, rfl⟩)))
  have f1 : 0 ≤ f.1 ∧ f.1 ≤ 12 := by simpa using h21
  refine At.fa 0 rfl rfl rfl rfl rfl rfl rfl ?_; refine At.ld 0 rfl rfl rfl rfl rfl rfl rfl rfl rfl ?_; refine At.cqb rfl rfl rfl rfl rfl rfl rfl rfl (s43 L _) fun b26 h26 => ?_; (iterate 2 refine At.v rfl rfl rfl rfl rfl trivial ?_); refine At.regionEnd ?_
  cases b26
  · have e : ¬ (0 ≤ f.1 ∧ f.1 ≤ 12) ∨ ¬ (0 ≤ t.1 ∧ t.1 ≤ 12) := .inr (by simpa using h26)
    simp only [if_pos e] at hc
    refine At.cond rfl ?_; refine At.seq (At.region ?_); refine At.v rfl rfl rfl rfl rfl trivial ?_; refine At.regionEnd ?_
    exact At.ret Tryz.func56 (.inr ⟨_, rfl⟩) rfl (.tmp rfl .nil) (wk (hc _ _ (⟨by rfl, rfl⟩)))
  have t1 : 0 ≤ t.1 ∧ t.1 ≤ 12 := by simpa using h26
  have e3 : ¬ (¬ (0 ≤ f.1 ∧ f.1 ≤ 12) ∨ ¬ (0 ≤ t.1 ∧ t.1 ≤ 12)) := by omega
  simp only [if_neg e3] at hc
  refine At.cond rfl ?_; refine At.skip (At.seq (At.seq (At.region ?_))); refine At.fa 0 rfl rfl rfl rfl rfl rfl rfl ?_; refine At.ld 0 rfl rfl rfl rfl rfl rfl rfl rfl rfl ?_; refine At.fa 0 rfl rfl rfl rfl rfl rfl rfl ?_; refine At.ld 1 rfl rfl rfl rfl rfl rfl rfl rfl rfl ?_; refine At.cp rfl rfl rfl rfl rfl fun b33 h33 => ?_; refine At.regionEnd ?_
  cases b33
  · have e : ¬ t.1 ≤ f.1 := by simpa using h33
    simp only [if_neg e] at hc
    refine At.cond rfl ?_; refine At.skip (At.seq (At.region ?_)); refine At.v rfl rfl rfl rfl rfl trivial ?_; refine At.regionEnd ?_
    exact At.ret Tryz.func56 (.inr ⟨_, rfl⟩) rfl (.tmp rfl .nil) (wk (hc _ _ (⟨by rfl, rfl⟩)))
  · have e : t.1 ≤ f.1 := by simpa using h33
    simp only [if_pos e] at hc
    refine At.cond rfl ?_; refine At.seq (At.region ?_); refine At.v rfl rfl rfl rfl rfl trivial ?_; refine At.regionEnd ?_
    exact At.ret Tryz.func56 (.inr ⟨_, rfl⟩) rfl (.tmp rfl .nil) (wk (hc _ _ (⟨by rfl, rfl⟩)))
set_option maxRecDepth 100000 in
set_option maxHeartbeats 4000000 in
/-- SlopeAt (ref02) -/
theorem s106 (L : Lg Tryz.prog main) (H : Facts) {f t : Int × R2} {st k n : Int} (hf : SightOk f) (ht : SightOk t) (hk : st - f.1 = k) (hn : t.1 - f.1 = n) (hk1 : 0 ≤ k ∧ k ≤ n) (hn1 : 1 ≤ n ∧ n ≤ 12) (hs : Mid st) :
    Pure L 106 #[.agg (List.toArray (cI3 f)), .agg (List.toArray (cI3 t)), .int .i64 st] H (rV (evenlyM f.2 t.2 k n)) := by
  refine Spec.enter Tryz.func106 rfl (by simp [Tryz.f106]) fun c cs hc => ?_
  unfold SightOk at hf ht
  have m1 := mul_bd (a := f.2.1) (b := t.2.2) (A := 20) (B := 20) (by omega) (by omega)
  have m2 := mul_bd (a := f.2.1 * t.2.2) (b := n - k) (A := 400) (B := 12) (by omega) (by omega)
  have m3 := mul_bd (a := t.2.1) (b := f.2.2) (A := 20) (B := 20) (by omega) (by omega)
  have m4 := mul_bd (a := t.2.1 * f.2.2) (b := k) (A := 400) (B := 12) (by omega) (by omega)
  have m5 := mul_bd (a := f.2.2) (b := t.2.2) (A := 20) (B := 20) (by omega) (by omega)
  have m6 := mul_bd (a := f.2.2 * t.2.2) (b := n) (A := 400) (B := 12) (by omega) (by omega)
  have h0 : f.2.2 * t.2.2 * n ≠ 0 := Int.mul_ne_zero (Int.mul_ne_zero (by omega) (by omega)) (by omega)
  subst hk hn
  refine At.seq (At.region ?_); refine At.bx rfl rfl rfl rfl rfl rfl rfl fun r3 => ?_; refine At.bx rfl rfl rfl rfl rfl rfl rfl fun r4 => ?_; refine At.al rfl rfl rfl rfl rfl fun r6 => ?_; refine At.regionEnd (At.seq ?_); refine At.drawJ hmix [] rfl ?_; refine Pool.v 0 rfl rfl rfl rfl rfl rfl rfl trivial ?_; refine Pool.fa 0 1 rfl rfl rfl rfl rfl rfl rfl rfl rfl ?_; refine Pool.ld 2 2 rfl rfl rfl rfl rfl rfl rfl rfl rfl rfl rfl ?_; refine Pool.v 3 rfl rfl rfl rfl rfl rfl rfl (by omega) ?_
  refine Pool.fa 0 4 rfl rfl rfl rfl rfl rfl rfl rfl rfl ?_; refine Pool.ld 1 5 rfl rfl rfl rfl rfl rfl rfl rfl rfl rfl rfl ?_; refine Pool.fa 0 6 rfl rfl rfl rfl rfl rfl rfl rfl rfl ?_; refine Pool.ld 2 7 rfl rfl rfl rfl rfl rfl rfl rfl rfl rfl rfl ?_; refine Pool.v 8 rfl rfl rfl rfl rfl rfl rfl (by omega) ?_; refine Pool.v 9 rfl rfl rfl rfl rfl rfl rfl trivial ?_; refine Pool.v 10 rfl rfl rfl rfl rfl rfl rfl trivial ?_; refine pool_done rfl rfl ?_; refine At.regionEnd (At.seq (At.region ?_))
  (iterate 2 refine At.fa 1 rfl rfl rfl rfl rfl rfl rfl ?_); refine At.ld 2 rfl rfl rfl rfl rfl rfl rfl rfl rfl ?_; refine At.fa 1 rfl rfl rfl rfl rfl rfl rfl ?_; refine At.fa 2 rfl rfl rfl rfl rfl rfl rfl ?_; refine At.ld 1 rfl rfl rfl rfl rfl rfl rfl rfl rfl ?_; refine At.v rfl rfl rfl rfl rfl (by omega) ?_; (iterate 2 refine At.v rfl rfl rfl rfl rfl trivial ?_); (iterate 2 refine At.v rfl rfl rfl rfl rfl (by omega) ?_); (iterate 2 refine At.fa 1 rfl rfl rfl rfl rfl rfl rfl ?_)
  refine At.ld 1 rfl rfl rfl rfl rfl rfl rfl rfl rfl ?_; refine At.fa 1 rfl rfl rfl rfl rfl rfl rfl ?_; refine At.fa 2 rfl rfl rfl rfl rfl rfl rfl ?_; refine At.ld 2 rfl rfl rfl rfl rfl rfl rfl rfl rfl ?_; refine At.v rfl rfl rfl rfl rfl (by omega) ?_; refine At.v rfl rfl rfl rfl rfl trivial ?_; (iterate 2 refine At.v rfl rfl rfl rfl rfl (by omega) ?_); refine At.fa 1 rfl rfl rfl rfl rfl rfl rfl ?_; refine At.fa 2 rfl rfl rfl rfl rfl rfl rfl ?_; refine At.ld 2 rfl rfl rfl rfl rfl rfl rfl rfl rfl ?_
  refine At.fa 1 rfl rfl rfl rfl rfl rfl rfl ?_; refine At.fa 2 rfl rfl rfl rfl rfl rfl rfl ?_; refine At.ld 1 rfl rfl rfl rfl rfl rfl rfl rfl rfl ?_; refine At.v rfl rfl rfl rfl rfl (by omega) ?_; refine At.v rfl rfl rfl rfl rfl trivial ?_; refine At.v rfl rfl rfl rfl rfl (by omega) ?_; refine At.cq rfl rfl rfl rfl rfl rfl rfl rfl (s46 L _ bs bs bs) ?_; refine At.st 0 rfl rfl rfl rfl rfl rfl rfl rfl rfl rfl rfl rfl ?_; refine At.regionEnd ?_
  exact At.ret Tryz.func106 (.inr ⟨_, rfl⟩) rfl (.aggJ 0 rfl rfl rfl .nil) (wk (hc _ _ (⟨by rfl, rfl⟩)))
set_option maxRecDepth 100000 in
set_option maxHeartbeats 4000000 in
/-- Thing (ref02) -/
theorem s33 (L : Lg Tryz.prog main) (H : Facts) {B : Bk} {A : BkA} {eye : Int} {f t : Int × R2} (hB : BkR H B A) (hl : B.prof.length ≤ 100000) (hm : B.marks.length ≤ 100000) :
    Grows L 33 #[bkV B A, .int .i64 eye, .agg (List.toArray (cI3 f)), .agg (List.toArray (cI3 t))] H (fun v sf => ∃ a cap, v = .tuple #[.slice a (thingM B eye f t).1.length cap, .int .i64 (thingM B eye f t).2] ∧ Sl c2 29 (.slice a (thingM B eye f t).1.length cap) (thingM B eye f t).1 sf) := by
  refine Spec.enter Tryz.func33 rfl (by simp [Tryz.f33]) fun c cs hc => ?_
  unfold thingM at hc
  refine At.seq (At.region ?_); refine At.bx rfl rfl rfl rfl rfl rfl rfl fun r4 => ?_; refine At.bx rfl rfl rfl rfl rfl rfl rfl fun r6 => ?_; refine At.bx rfl rfl rfl rfl rfl rfl rfl fun r7 => ?_; (iterate 2 refine At.v rfl rfl rfl rfl rfl trivial ?_); refine At.regionEnd (At.seq (At.seq (At.region ?_))); refine At.ld 2 rfl rfl rfl rfl rfl rfl rfl rfl rfl ?_; refine At.cq rfl rfl rfl rfl rfl rfl rfl rfl (s24 L _ bs bs bs) ?_; refine At.v rfl rfl rfl rfl rfl trivial ?_
  refine At.regionEnd (At.seq (At.region ?_)); refine At.v rfl rfl rfl rfl rfl trivial ?_; refine At.cp rfl rfl rfl rfl rfl fun b20 h20 => ?_; refine At.regionEnd ?_
  cases b20
  rotate_left
  · have hz : bookBar B ≠ 0 := by simpa using h20
    rw [lookBarN hz] at hc
    simp only [if_pos hz] at hc
    refine At.cond rfl ?_; refine At.seq (At.region ?_); (iterate 3 refine At.v rfl rfl rfl rfl rfl trivial ?_); refine At.regionEnd ?_
    exact At.ret Tryz.func33 (.inr ⟨_, rfl⟩) rfl (.tmp rfl (.tmp rfl .nil)) (wk (hc _ _ (⟨[], ⟨none, 0, rfl, Sl.nil⟩, rfl⟩)))
  have hz : bookBar B = 0 := by simpa using h20
  rw [lookBar0 hz] at hc
  refine At.cond rfl ?_; refine At.skip (At.seq (At.seq (At.region ?_))); refine At.v rfl rfl rfl rfl rfl trivial ?_; refine At.cqb rfl rfl rfl rfl rfl rfl rfl rfl (s102 L _) fun b23 h23 => ?_; refine At.v rfl rfl rfl rfl rfl trivial ?_; refine At.regionEnd ?_
  cases b23
  · have he : hBar eye = 1 := by simp at h23; unfold hBar; rw [if_neg (by omega)]
    simp only [he] at hc
    refine At.cond rfl ?_; refine At.seq (At.region ?_); (iterate 2 refine At.v rfl rfl rfl rfl rfl trivial ?_); refine At.regionEnd ?_
    exact At.ret Tryz.func33 (.inr ⟨_, rfl⟩) rfl (.tmp rfl (.tmp rfl .nil)) (wk (hc _ _ (⟨[], ⟨none, 0, rfl, Sl.nil⟩, rfl⟩)))
  have he' : EyeOk eye := by simp at h23; unfold EyeOk; omega
  have he : hBar eye = 0 := if_pos he'
  simp only [he, ne_eq, not_true_eq_false, if_false] at hc
  refine At.cond rfl ?_; refine At.skip (At.seq (At.seq (At.region ?_))); refine At.ld 1 rfl rfl rfl rfl rfl rfl rfl rfl rfl ?_; refine At.ld 0 rfl rfl rfl rfl rfl rfl rfl rfl rfl ?_; refine At.cq rfl rfl rfl rfl rfl rfl rfl rfl (s56 L _) ?_; refine At.v rfl rfl rfl rfl rfl trivial ?_; refine At.regionEnd (At.seq (At.region ?_)); refine At.v rfl rfl rfl rfl rfl trivial ?_; refine At.cp rfl rfl rfl rfl rfl fun b29 h29 => ?_; refine At.regionEnd ?_
  cases b29
  rotate_left
  · have hs : sightsBar f t ≠ 0 := by simpa using h29
    simp only [hs, not_false_eq_true, if_true] at hc
    refine At.cond rfl ?_; refine At.seq (At.region ?_); (iterate 3 refine At.v rfl rfl rfl rfl rfl trivial ?_); refine At.regionEnd ?_
    exact At.ret Tryz.func33 (.inr ⟨_, rfl⟩) rfl (.tmp rfl (.tmp rfl .nil)) (wk (hc _ _ (⟨[], ⟨none, 0, rfl, Sl.nil⟩, rfl⟩)))
  have hs : sightsBar f t = 0 := by simpa using h29
  simp only [hs, not_true_eq_false, if_false] at hc
  obtain ⟨hf, ht, hlt, _, _⟩ := sights0 hs
  refine At.cond rfl ?_; refine At.skip (At.seq (At.region ?_)); refine At.v rfl rfl rfl rfl rfl trivial ?_; refine At.regionEnd (At.seq (At.seq (At.region ?_))); refine At.fa 0 rfl rfl rfl rfl rfl rfl rfl ?_; refine At.ld 1 rfl rfl rfl rfl rfl rfl rfl rfl rfl ?_; refine At.v rfl rfl rfl rfl rfl trivial ?_; refine At.regionEnd ?_; refine At.block ?_
  refine At.lpk (X := { x : Nat × Int × Value × Facts × List R2 // x.1 ≤ (t.1 - f.1).toNat + 1 ∧ x.2.1 = f.1 + (x.1 : Int) ∧ thingTo B eye f t x.1 = some x.2.2.2.2 ∧ Sl c2 29 x.2.2.1 x.2.2.2.2 x.2.2.2.1 }) [1, 4, 6, 7] (fun x => [(13, .int .i64 x.1.2.1), (12, x.1.2.2.1)]) (fun x => .own r7 (.cells (List.toArray (cI3 t)) 44 (0, 0)) :: .own r6 (.cells (List.toArray (cI3 f)) 44 (0, 0)) :: .own r4 (.cells (List.toArray (bkC B A)) 27 (0, 0)) :: (x.1.2.2.2.1 ++ H)) (fun x => (t.1 - f.1).toNat + 1 - x.1.1) (⟨(0, f.1, .slice none 0 0, [], []), by simp, by simp, rfl, Sl.nil⟩) rfl ?_ (by repeat (first | exact trivial | refine ⟨rfl, ?_⟩)) sb
  rintro ⟨⟨j, st, v, sf, l⟩, hj, hst, hth, hsl⟩ again
  simp only at again hj hst hth hsl ⊢
  have hlen := thingTo_len hth
  have hfb := hf
  have htb := ht
  unfold SightOk at hfb htb
  refine At.seq (At.seq (At.region ?_)); refine At.v rfl rfl rfl rfl rfl trivial ?_; refine At.fa 0 rfl rfl rfl rfl rfl rfl rfl ?_; refine At.ld 0 rfl rfl rfl rfl rfl rfl rfl rfl rfl ?_; refine At.cp rfl rfl rfl rfl rfl fun b36 h36 => ?_; refine At.regionEnd ?_
  cases b36
  · have e : j = (t.1 - f.1).toNat + 1 := by simp at h36; omega
    subst e
    obtain ⟨a, cap, rfl⟩ := hsl.slice
    simp only [hth] at hc
    refine At.cond rfl ?_; refine At.exit rfl ?_; refine At.seq (At.region ?_); (iterate 3 refine At.v rfl rfl rfl rfl rfl trivial ?_); refine At.regionEnd ?_
    exact At.ret Tryz.func33 (.inr ⟨_, rfl⟩) rfl (.tmp rfl (.tmp rfl .nil)) (wk (hc _ _ (⟨sf, ⟨a, cap, rfl, hsl⟩, rfl⟩)))
  · have hjt : j < (t.1 - f.1).toNat + 1 := by simp at h36; omega
    have h106 := fun H_ => s106 L H_ (f := f) (t := t) (st := st) (k := (j : Int)) (n := t.1 - f.1) hf ht (by omega) rfl (by omega) (by omega) (by omega)
    have h95 := fun H_ (hB_ : BkR H_ B A) => s95 L H_ (s := evenlyM f.2 t.2 j (t.1 - f.1)) hB_ hz he' (evenlyM_sl hf ht (by omega) (by omega))
    have stop106 := trivial
    have stop95 := trivial
    refine At.cond rfl ?_; refine At.skip (At.seq ?_); refine At.block ?_; refine At.seq ?_; refine At.drawJ hmix [] rfl ?_; refine Pool.ld 2 0 rfl rfl rfl rfl rfl rfl rfl rfl rfl rfl rfl ?_; refine Pool.v 1 rfl rfl rfl rfl rfl rfl rfl trivial ?_; refine Pool.ld 1 2 rfl rfl rfl rfl rfl rfl rfl rfl rfl rfl rfl ?_; refine Pool.ld 0 3 rfl rfl rfl rfl rfl rfl rfl rfl rfl rfl rfl ?_; refine Pool.v 4 rfl rfl rfl rfl rfl rfl rfl trivial ?_; refine Pool.fl 11 rfl rfl rfl rfl rfl rfl rfl rfl rfl rfl ?_
    refine Pool.fl 12 rfl rfl rfl rfl rfl rfl rfl rfl rfl rfl ?_
    clear stop106
    refine Pool.cq 5 rfl rfl rfl rfl rfl rfl rfl rfl rfl (fun H_ hs_ => h106 H_) ?_
    skip
    clear stop95
    refine Pool.cq 6 rfl rfl rfl rfl rfl rfl rfl rfl rfl (fun H_ hs_ => h95 _ hB.a) ?_; refine Pool.v 7 rfl rfl rfl rfl rfl rfl rfl trivial ?_; refine Pool.v 8 rfl rfl rfl rfl rfl rfl rfl trivial ?_; refine Pool.v 9 rfl rfl rfl rfl rfl rfl rfl trivial ?_; refine Pool.v 10 rfl rfl rfl rfl rfl rfl rfl trivial ?_; refine Pool.v 15 rfl rfl rfl rfl rfl rfl rfl trivial ?_; refine pool_take rfl rfl rfl fun rf12 => ?_; refine pool_take rfl rfl rfl fun rf11 => ?_
    refine Pool.st 0 13 rfl rfl rfl rfl rfl rfl rfl rfl rfl rfl rfl rfl rfl rfl rfl rfl rfl rfl sb ?_; refine Pool.st 1 14 rfl rfl rfl rfl rfl rfl rfl rfl rfl rfl rfl rfl rfl rfl rfl rfl rfl rfl sb ?_; refine pool_done rfl rfl ?_; refine At.regionEnd (At.seq (At.seq (At.region ?_))); (iterate 2 refine At.v rfl rfl rfl rfl rfl trivial ?_); refine At.regionEnd ?_
    cases hm' : meetM B.prof eye (evenlyM f.2 t.2 j (t.1 - f.1)) with
    | none =>
      have e := thingTo_none (m := (t.1 - f.1).toNat + 1) (show thingAt B eye f t j = none from hm') hjt
      simp only [e] at hc
      refine At.cond rfl ?_; refine At.seq (At.region ?_); (iterate 2 refine At.v rfl rfl rfl rfl rfl trivial ?_); refine At.regionEnd ?_
      exact At.ret Tryz.func33 (.inr ⟨_, rfl⟩) rfl (.tmp rfl (.tmp rfl .nil)) (wk (hc _ _ (⟨[], ⟨none, 0, rfl, Sl.nil⟩, rfl⟩)))
    | some x =>
      have hth' := thingTo_some hth (show thingAt B eye f t j = some x from hm')
      refine At.cond rfl ?_; refine At.skip (At.region ?_); refine At.v rfl rfl rfl rfl rfl trivial ?_; refine At.ld 1 rfl rfl rfl rfl rfl rfl rfl rfl rfl ?_
      (refine At.l rfl rfl rfl rfl (l_buildSlice rfl rfl rfl rfl rfl) ?_; rintro _ _ ⟨r54, rfl, rfl⟩)
      refine At.push (x := x.2) 0 6 rfl rfl rfl rfl rfl rfl rfl rfl rfl rfl rfl rfl rfl rfl hsl rfl rfl rfl ?_ fun v sf hs => ?_
      · omega
      · refine At.v rfl rfl rfl rfl rfl trivial ?_
        refine At.regionEnd ?_; refine At.inBlock ?_; refine At.region ?_; refine At.v rfl rfl rfl rfl rfl trivial ?_; refine At.v rfl rfl rfl rfl rfl (by omega) ?_; refine At.v rfl rfl rfl rfl rfl trivial ?_; refine At.regionEnd ?_
        refine At.tA ((again ⟨(j + 1, st + 1, v, sf, l ++ [x.2]), hjt, by show st + 1 = f.1 + ((j + 1 : Nat) : Int); omega, hth', hs⟩ (by simp; omega)))
end Go.Gx
end

section
set_option linter.unusedSimpArgs false
set_option linter.unusedVariables false
namespace Go.Gx
open Go Go.Conc Go.Proofs
variable {main : Bool}

theorem low_cross {n d : Int} (hd : d ≠ 0) : (low n d).1 * d = n * (low n d).2 := by
  unfold low lowN lowD
  have hg : 0 < Int.gcd n d := Int.gcd_pos_of_ne_zero_right n hd
  have h1 : ((Int.gcd n d : Nat) : Int) ∣ n := Int.gcd_dvd_left ..
  have h2 : ((Int.gcd n d : Nat) : Int) ∣ d := Int.gcd_dvd_right ..
  generalize ((Int.gcd n d : Nat) : Int) = g at *
  have hg0 : g ≠ 0 := by rintro rfl; exact hd (Int.zero_dvd.1 h2)
  obtain ⟨a, rfl⟩ := h1
  obtain ⟨b, rfl⟩ := h2
  split
  · rw [← Int.mul_neg, ← Int.mul_neg, Int.mul_tdiv_cancel_left _ hg0, Int.mul_tdiv_cancel_left _ hg0]
    simp only [Int.neg_mul, Int.mul_neg]
    rw [Int.mul_left_comm, Int.mul_assoc]
  · simp only
    rw [Int.mul_tdiv_cancel_left _ hg0, Int.mul_tdiv_cancel_left _ hg0, Int.mul_left_comm, Int.mul_assoc]
theorem low_zero {d : Int} (hd : d ≠ 0) : low 0 d = (0, 1) := by
  have := low_mul (e := 0) hd
  rwa [Int.zero_mul] at this
theorem bendAt_zero {f : Int × R2} {l : List R2} (h : BendsOk l) : bendAt f l 0 = (f.1, (0, 1)) := by
  obtain ⟨hl, ha, hz, hm⟩ := h
  have hb := bend_bd ⟨hl, ha, hz, hm⟩ (show 0 < l.length by omega) rfl rfl rfl rfl
  unfold bendAt
  generalize hn : ((l.length - 1 : Nat) : Int) = n at hb ⊢
  have hn0 : n ≠ 0 := by omega
  generalize l.getD 0 (0, 0) = a at hb ha ⊢
  generalize l.getD (l.length - 1) (0, 0) = z at hb hz ⊢
  have hd : a.2 * z.2 * n ≠ 0 := Int.mul_ne_zero (Int.mul_ne_zero (by have := ha.d; omega) (by have := hz.d; omega)) hn0
  have hc := low_cross (n := a.1 * z.2 * (n - ((0 : Nat) : Int)) + z.1 * a.2 * ((0 : Nat) : Int)) hd
  have e0 : evenlyM a z ((0 : Nat) : Int) n = low (a.1 * z.2 * (n - ((0 : Nat) : Int)) + z.1 * a.2 * ((0 : Nat) : Int)) (a.2 * z.2 * n) := rfl
  rw [← e0] at hc
  generalize evenlyM a z ((0 : Nat) : Int) n = e at hb hc ⊢
  have hc' : a.1 * e.2 - e.1 * a.2 = 0 := by
    have h1 : e.1 * a.2 * (z.2 * n) = a.1 * e.2 * (z.2 * n) := by
      rw [show e.1 * a.2 * (z.2 * n) = e.1 * (a.2 * z.2 * n) by simp only [Int.mul_assoc], hc]
      simp only [Int.ofNat_zero, Int.sub_zero, Int.mul_zero, Int.add_zero, Int.natCast_zero]
      simp only [Int.mul_assoc, Int.mul_comm, Int.mul_left_comm]
    have h2 : z.2 * n ≠ 0 := Int.mul_ne_zero (by have := hz.d; omega) hn0
    have := Int.eq_of_mul_eq_mul_right h2 h1
    omega
  unfold minusM
  rw [hc', low_zero hb.2.2.2.2]
  simp
theorem bend_from {f : Int × R2} {l : List R2} (h : BendsOk l) : bestM bendLess (f.1, ((0 : Int), (1 : Int))) (bendsTo f l l.length) = bestM bendLess (bendAt f l 0) ((bendsTo f l l.length).drop 1) := by
  have hl := h.len
  have e : bendsTo f l l.length = bendAt f l 0 :: (bendsTo f l l.length).drop 1 := by
    have h0 : 0 < (bendsTo f l l.length).length := by rw [bendsTo_len]; omega
    have := List.drop_eq_getElem_cons h0
    rw [List.drop_zero] at this
    rw [this]
    simp [bendsTo]
  rw [e]
  show bestM bendLess (if bendLess (bendAt f l 0) _ = true then _ else _) _ = _
  rw [bendAt_zero h]
  simp
set_option maxRecDepth 100000 in
set_option maxHeartbeats 4000000 in
/-- Even (ref02) -/
theorem s112 (L : Lg Tryz.prog main) (H : Facts) {l : List R2} {a : Option Addr} {n cap k : Nat} (hn : l.length = n) (hr : Rd H a (l.flatMap c2)) (hok : BendsOk l) (hk : k < l.length) :
    Pure L 112 #[.slice a n cap, .int .i64 (k : Int)] H (rV (evenlyM (l.getD 0 (0, 0)) (l.getD (l.length - 1) (0, 0)) k ((l.length - 1 : Nat) : Int))) := by
  subst hn
  refine Spec.enter Tryz.func112 rfl (by simp [Tryz.f112]) fun c cs hc => ?_
  obtain ⟨hl, ha, hz, hm⟩ := hok
  obtain ⟨b, off, rfl, hc0⟩ := hr.el (List.getElem?_eq_getElem (show 0 < l.length by omega))
  obtain ⟨b', off', e1, hcz⟩ := hr.el (List.getElem?_eq_getElem (show l.length - 1 < l.length by omega))
  cases e1
  have g0 : l.getD 0 (0, 0) = l[0] := by rw [List.getD_eq_getElem?_getD, List.getElem?_eq_getElem (by omega)]; rfl
  have gz : l.getD (l.length - 1) (0, 0) = l[l.length - 1] := by rw [List.getD_eq_getElem?_getD, List.getElem?_eq_getElem (by omega)]; rfl
  rw [g0] at ha hc
  rw [gz] at hz hc
  obtain ⟨a1, a2⟩ := ha
  obtain ⟨z1, z2⟩ := hz
  have en : (l.length : Int) - 1 = ((l.length - 1 : Nat) : Int) := by omega
  have stopDraw := trivial
  refine At.seq (At.region ?_); refine At.al rfl rfl rfl rfl rfl fun r4 => ?_; refine At.regionEnd (At.seq (At.region ?_)); refine At.v rfl rfl rfl rfl rfl trivial ?_; refine At.ln rfl rfl rfl rfl rfl rfl rfl rfl ?_; refine At.v rfl rfl rfl rfl rfl (by omega) ?_; refine At.v rfl rfl rfl rfl rfl trivial ?_; refine At.regionEnd (At.seq ?_)
  rw [en]
  clear stopDraw
  have b1 := mul_bd (a := l[0].1) (b := l[l.length - 1].2) (A := 540000) (B := 3000) a1 (by omega)
  have b2 := mul_bd (a := l[0].1 * l[l.length - 1].2) (b := ((l.length - 1 : Nat) : Int) - (k : Int)) (A := 540000 * 3000) (B := 12) b1 (by omega)
  have b3 := mul_bd (a := l[l.length - 1].1) (b := l[0].2) (A := 540000) (B := 3000) z1 (by omega)
  have b4 := mul_bd (a := l[l.length - 1].1 * l[0].2) (b := (k : Int)) (A := 540000 * 3000) (B := 12) b3 (by omega)
  have b5 := mul_bd (a := l[0].2) (b := l[l.length - 1].2) (A := 3000) (B := 3000) (by omega) (by omega)
  have b6 := mul_bd (a := l[0].2 * l[l.length - 1].2) (b := ((l.length - 1 : Nat) : Int)) (A := 3000 * 3000) (B := 12) b5 (by omega)
  have h0 : l[0].2 * l[l.length - 1].2 * ((l.length - 1 : Nat) : Int) ≠ 0 := Int.mul_ne_zero (Int.mul_ne_zero (by omega) (by omega)) (by omega)
  refine At.drawJ hmix [] rfl ?_; refine Pool.v 0 rfl rfl rfl rfl rfl rfl rfl trivial ?_; refine Pool.q 1 rfl rfl rfl rfl rfl (q_ia rfl rfl rfl (by dsimp only; omega)) rfl ?_; refine Pool.ldc 2 rfl rfl rfl rfl rfl rfl rfl hc0.a rfl rfl rfl ?_; refine Pool.v 3 rfl rfl rfl rfl rfl rfl rfl trivial ?_; refine Pool.v 4 rfl rfl rfl rfl rfl rfl rfl trivial ?_; refine Pool.q 5 rfl rfl rfl rfl rfl (q_ia rfl rfl rfl (by omega)) rfl ?_; refine Pool.ldc 6 rfl rfl rfl rfl rfl rfl rfl hcz.a rfl rfl rfl ?_
  refine Pool.fl 7 rfl rfl rfl rfl rfl rfl rfl rfl rfl rfl ?_; refine Pool.al 8 rfl rfl rfl rfl rfl rfl rfl rfl rfl rfl rfl sb fun r7 => ?_; refine pool_take rfl rfl rfl fun rf7 => ?_; refine Pool.st 0 9 rfl rfl rfl rfl rfl rfl rfl rfl rfl rfl rfl rfl rfl rfl rfl rfl rfl rfl sb ?_; refine Pool.st 1 10 rfl rfl rfl rfl rfl rfl rfl rfl rfl rfl rfl rfl rfl rfl rfl rfl rfl rfl sb ?_; refine pool_done rfl rfl ?_; refine At.regionEnd (At.seq (At.region ?_)); refine At.fa 0 rfl rfl rfl rfl rfl rfl rfl ?_
  refine At.ld 0 rfl rfl rfl rfl rfl rfl rfl rfl rfl ?_; refine At.fa 1 rfl rfl rfl rfl rfl rfl rfl ?_; refine At.ld 1 rfl rfl rfl rfl rfl rfl rfl rfl rfl ?_; refine At.v rfl rfl rfl rfl rfl (by omega) ?_; (iterate 2 refine At.v rfl rfl rfl rfl rfl trivial ?_); (iterate 2 refine At.v rfl rfl rfl rfl rfl (by omega) ?_); refine At.fa 0 rfl rfl rfl rfl rfl rfl rfl ?_; refine At.ld 1 rfl rfl rfl rfl rfl rfl rfl rfl rfl ?_; refine At.fa 1 rfl rfl rfl rfl rfl rfl rfl ?_
  refine At.ld 0 rfl rfl rfl rfl rfl rfl rfl rfl rfl ?_; refine At.v rfl rfl rfl rfl rfl (by omega) ?_; refine At.v rfl rfl rfl rfl rfl trivial ?_; (iterate 2 refine At.v rfl rfl rfl rfl rfl (by omega) ?_); refine At.fa 1 rfl rfl rfl rfl rfl rfl rfl ?_; refine At.ld 0 rfl rfl rfl rfl rfl rfl rfl rfl rfl ?_; refine At.fa 1 rfl rfl rfl rfl rfl rfl rfl ?_; refine At.ld 1 rfl rfl rfl rfl rfl rfl rfl rfl rfl ?_; refine At.v rfl rfl rfl rfl rfl (by omega) ?_; refine At.v rfl rfl rfl rfl rfl trivial ?_
  refine At.v rfl rfl rfl rfl rfl (by omega) ?_; refine At.cq rfl rfl rfl rfl rfl rfl rfl rfl (s46 L _ bs bs bs) ?_; refine At.st 2 rfl rfl rfl rfl rfl rfl rfl rfl rfl rfl rfl rfl ?_; refine At.regionEnd ?_
  exact At.ret Tryz.func112 (.inr ⟨_, rfl⟩) rfl (.aggJ 2 rfl rfl rfl .nil) (wk (hc _ _ (⟨by rfl, rfl⟩)))
set_option maxRecDepth 100000 in
set_option maxHeartbeats 4000000 in
/-- Bend (ref02) -/
theorem s35 (L : Lg Tryz.prog main) (H : Facts) {B : Bk} {A : BkA} {eye : Int} {f t : Int × R2} (hB : BkR H B A) (hlp : B.prof.length ≤ 100000) (hlm : B.marks.length ≤ 100000) :
    Pure L 35 #[bkV B A, .int .i64 eye, .agg (List.toArray (cI3 f)), .agg (List.toArray (cI3 t))] H (.tuple #[.int .i64 (bendM B eye f t).1.1, rV (bendM B eye f t).1.2, .int .i64 (bendM B eye f t).2]) := by
  refine Spec.enter Tryz.func35 rfl (by simp [Tryz.f35]) fun c cs hc => ?_
  unfold bendM at hc
  have stop33 := trivial
  refine At.seq (At.region ?_); refine At.bx rfl rfl rfl rfl rfl rfl rfl fun r4 => ?_; refine At.bx rfl rfl rfl rfl rfl rfl rfl fun r6 => ?_; refine At.bx rfl rfl rfl rfl rfl rfl rfl fun r7 => ?_; refine At.v rfl rfl rfl rfl rfl trivial ?_; refine At.al rfl rfl rfl rfl rfl fun r9 => ?_; refine At.v rfl rfl rfl rfl rfl trivial ?_; refine At.regionEnd (At.seq (At.region ?_)); refine At.ld 3 rfl rfl rfl rfl rfl rfl rfl rfl rfl ?_; refine At.v rfl rfl rfl rfl rfl trivial ?_
  refine At.ld 2 rfl rfl rfl rfl rfl rfl rfl rfl rfl ?_; refine At.ld 1 rfl rfl rfl rfl rfl rfl rfl rfl rfl ?_
  clear stop33
  refine At.cl rfl rfl rfl rfl rfl rfl rfl rfl (s33 L _ (B := B) (A := A) (eye := eye) (f := f) (t := t) hB.a hlp hlm) ?_
  rintro _ _ ⟨sf, ⟨a, cap, rfl, hsl⟩, rfl⟩
  refine At.back ?_
  by_cases hb : (thingM B eye f t).2 = 0
  rotate_left
  · simp only [if_pos hb] at hc
    (iterate 5 refine At.v rfl rfl rfl rfl rfl trivial ?_); refine At.regionEnd (At.seq (At.seq (At.region ?_))); refine At.v rfl rfl rfl rfl rfl trivial ?_; refine At.cp rfl rfl rfl rfl rfl fun b26 h26 => ?_; refine At.regionEnd ?_
    have e : b26 = true := by rw [← h26]; simpa using hb
    subst e
    refine At.cond rfl ?_; refine At.seq (At.region ?_); refine At.q rfl rfl rfl rfl (q_build rfl rfl rfl) ?_; (iterate 2 refine At.v rfl rfl rfl rfl rfl trivial ?_); refine At.st 0 rfl rfl rfl rfl rfl rfl rfl rfl rfl rfl rfl rfl ?_; refine At.v rfl rfl rfl rfl rfl trivial ?_; refine At.regionEnd ?_
    exact At.ret Tryz.func35 (.inr ⟨_, rfl⟩) rfl (.tmp rfl (.aggJ 0 rfl rfl rfl (.tmp rfl .nil))) (wk (hc _ _ (⟨by rfl, rfl⟩)))
  have hok := bends_ok hb
  have hf1 := (thing0 hb).1
  simp only [if_neg (show ¬ (thingM B eye f t).2 ≠ 0 from by simpa using hb)] at hc
  rw [hb]
  generalize hl : (thingM B eye f t).1 = l at hsl hok hc
  obtain ⟨hlen, ha, hz, hm⟩ := id hok
  obtain ⟨_, hrl, _⟩ := hsl.rd
  rw [← bend_from hok] at hc
  (iterate 5 refine At.v rfl rfl rfl rfl rfl trivial ?_); refine At.regionEnd (At.seq (At.seq (At.region ?_))); refine At.v rfl rfl rfl rfl rfl trivial ?_; refine At.cp rfl rfl rfl rfl rfl fun b26 h26 => ?_; refine At.regionEnd ?_
  obtain rfl : b26 = false := h26.symm.trans (by kernel_rfl)
  refine At.cond rfl ?_; refine At.skip (At.seq (At.region ?_)); refine At.fa 0 rfl rfl rfl rfl rfl rfl rfl ?_; refine At.ld 2 rfl rfl rfl rfl rfl rfl rfl rfl rfl ?_; refine At.q rfl rfl rfl rfl (q_build rfl rfl rfl) ?_; refine At.al rfl rfl rfl rfl rfl fun r14 => ?_; refine At.v rfl rfl rfl rfl rfl trivial ?_; refine At.st 0 rfl rfl rfl rfl rfl rfl rfl rfl rfl rfl rfl rfl ?_; refine At.regionEnd (At.seq (At.seq (At.region ?_))); refine At.v rfl rfl rfl rfl rfl trivial ?_; refine At.regionEnd ?_
  refine At.block ?_
  refine At.lpk (X := { j : Nat // j ≤ l.length }) [6, 8, 9, 10, 11, 14] (fun x => [(15, .int .i64 (x.1 : Int)), (13, .int .i64 (bestM bendLess (f.1, ((0 : Int), (1 : Int))) (bendsTo f l x.1)).1)]) (fun x => .own r14 (.cells (List.toArray (c2 (bestM bendLess (f.1, ((0 : Int), (1 : Int))) (bendsTo f l x.1)).2)) 29 (0, 0)) :: .own r9 (.cells #[.int .i64 0, .int .i64 0] 29 (0, 0)) :: .own r7 (.cells (List.toArray (cI3 t)) 44 (0, 0)) :: .own r6 (.cells (List.toArray (cI3 f)) 44 (0, 0)) :: .own r4 (.cells (List.toArray (bkC B A)) 27 (0, 0)) :: (sf ++ H)) (fun x => l.length - x.1) (⟨0, Nat.zero_le _⟩) rfl ?_ (by repeat (first | exact trivial | refine ⟨rfl, ?_⟩)) sb
  rintro ⟨j, hj⟩ again
  simp only at again ⊢
  refine At.seq (At.seq (At.region ?_)); (iterate 2 refine At.v rfl rfl rfl rfl rfl trivial ?_); refine At.ln rfl rfl rfl rfl rfl rfl rfl rfl ?_; refine At.cp rfl rfl rfl rfl rfl fun b35 h35 => ?_; refine At.regionEnd ?_
  cases b35
  · have e : j = l.length := by simp at h35; omega
    subst e
    refine At.cond rfl ?_; refine At.exit rfl ?_; refine At.seq ?_; refine At.drawJ hmix [1] rfl ?_; refine Pool.v 0 rfl rfl rfl rfl rfl rfl rfl trivial ?_; refine Pool.ld 0 1 rfl rfl rfl rfl rfl rfl rfl rfl rfl rfl rfl ?_; refine Pool.v 2 rfl rfl rfl rfl rfl rfl rfl trivial ?_; refine Pool.st 1 3 rfl rfl rfl rfl rfl rfl rfl rfl rfl rfl rfl rfl rfl rfl rfl rfl rfl rfl sb ?_; refine Pool.v 4 rfl rfl rfl rfl rfl rfl rfl trivial ?_; refine pool_done rfl rfl ?_; refine At.regionEnd ?_
    exact At.ret Tryz.func35 (.inr ⟨_, rfl⟩) rfl (.tmp rfl (.aggJ 1 rfl rfl rfl (.tmp rfl .nil))) (wk (hc _ _ (⟨by rfl, rfl⟩)))
  · have hlt : j < l.length := by simp at h35; omega
    have g0 : l.getD 0 (0, 0) = l[0] := by rw [List.getD_eq_getElem?_getD, List.getElem?_eq_getElem (by omega)]; rfl
    have gz : l.getD (l.length - 1) (0, 0) = l[l.length - 1] := by rw [List.getD_eq_getElem?_getD, List.getElem?_eq_getElem (by omega)]; rfl
    have gj : l.getD j (0, 0) = l[j] := by rw [List.getD_eq_getElem?_getD, List.getElem?_eq_getElem hlt]; rfl
    have hbj : bendAt f l j = (f.1 + j, minusM l[j] (evenlyM (l.getD 0 (0, 0)) (l.getD (l.length - 1) (0, 0)) j ((l.length - 1 : Nat) : Int))) := by unfold bendAt; rw [gj]
    obtain ⟨d1, d2, d3, d4, d5⟩ := bend_bd hok hlt rfl rfl gj.symm rfl
    have q1 : InI (f.1 + j) := by unfold SightOk at hf1; unfold InI; omega
    have q2 := bendAt_in (f := f) hok hlt
    have q3 : InI (-(bestM bendLess (f.1, ((0 : Int), (1 : Int))) (bendsTo f l j)).2.1) := by
      rcases List.mem_cons.1 (bestM_mem bendLess (f.1, ((0 : Int), (1 : Int))) (bendsTo f l j)) with h | h
      · rw [h]; unfold InI; simp
      · unfold bendsTo at h
        obtain ⟨k, hk, e⟩ := List.mem_map.1 h
        unfold bendsTo
        rw [← e]
        exact bendAt_in hok (by have := List.mem_range.1 hk; omega)
    have hsn := bestM_snoc bendLess (f.1, ((0 : Int), (1 : Int))) (bendsTo f l j) (bendAt f l j)
    rw [← bendsTo_succ] at hsn
    have ag := again ⟨j + 1, hlt⟩ (by simp; omega)
    simp only [hsn] at ag
    clear hsn again
    generalize bestM bendLess (f.1, ((0 : Int), (1 : Int))) (bendsTo f l j) = acc at q3 ag ⊢
    obtain ⟨b, off, rfl, hcj⟩ := hrl.el (List.getElem?_eq_getElem hlt)
    have h112 := fun H_ hr_ => s112 L H_ (l := l) (n := l.length) (cap := cap) (k := j) (a := some ⟨b, off, none⟩) rfl hr_ hok hlt
    generalize evenlyM (l.getD 0 (0, 0)) (l.getD (l.length - 1) (0, 0)) j ((l.length - 1 : Nat) : Int) = ev at d1 d2 d3 d4 d5 hbj h112
    have h54 := fun H_ => s54 L H_ (an := l[j].1) (ad := l[j].2) (bn := ev.1) (bd := ev.2) (by unfold InI; omega) (by unfold InI; omega) (by unfold Mid; omega) (by unfold Mid; omega) d5
    have stop112 := trivial
    have stop54 := trivial
    refine At.cond rfl ?_; refine At.skip (At.seq ?_); refine At.block ?_; refine At.seq ?_; refine At.drawJ hmix [] rfl ?_; refine Pool.v 0 rfl rfl rfl rfl rfl rfl rfl trivial ?_; refine Pool.v 1 rfl rfl rfl rfl rfl rfl rfl trivial ?_; refine Pool.q 2 rfl rfl rfl rfl rfl (q_ia rfl rfl rfl (by assumption)) rfl ?_; refine Pool.ldc 3 rfl rfl rfl rfl rfl rfl rfl hcj.a rfl rfl rfl ?_; refine Pool.v 4 rfl rfl rfl rfl rfl rfl rfl trivial ?_; refine Pool.v 5 rfl rfl rfl rfl rfl rfl rfl trivial ?_
    refine Pool.fl 8 rfl rfl rfl rfl rfl rfl rfl rfl rfl rfl ?_
    clear stop112
    refine Pool.cq 6 rfl rfl rfl rfl rfl rfl rfl rfl rfl (fun H_ hs_ => h112 _ hrl.a) ?_
    skip
    clear stop54
    refine Pool.cq 7 rfl rfl rfl rfl rfl rfl rfl rfl rfl (fun H_ hs_ => h54 H_) ?_
    have em : (lowN (l[j].1 * ev.2 - ev.1 * l[j].2) (l[j].2 * ev.2), lowD (l[j].1 * ev.2 - ev.1 * l[j].2) (l[j].2 * ev.2)) = (bendAt f l j).2 := by rw [hbj]; rfl
    rw [hbj] at q2
    refine pool_take rfl rfl rfl fun rf8 => ?_; refine Pool.st 0 9 rfl rfl rfl rfl rfl rfl rfl rfl rfl rfl rfl rfl rfl rfl rfl rfl rfl rfl sb ?_; refine pool_done rfl rfl ?_; refine At.regionEnd (At.seq (At.region ?_)); refine At.fa 0 rfl rfl rfl rfl rfl rfl rfl ?_; refine At.ld 1 rfl rfl rfl rfl rfl rfl rfl rfl rfl ?_; refine At.fa 0 rfl rfl rfl rfl rfl rfl rfl ?_; refine At.ld 1 rfl rfl rfl rfl rfl rfl rfl rfl rfl ?_; refine At.v rfl rfl rfl rfl rfl (by assumption) ?_
    refine At.v rfl rfl rfl rfl rfl trivial ?_; refine At.fa 1 rfl rfl rfl rfl rfl rfl rfl ?_; refine At.ld 1 rfl rfl rfl rfl rfl rfl rfl rfl rfl ?_; refine At.q rfl rfl rfl rfl (q_build rfl rfl rfl) ?_; refine At.fa 0 rfl rfl rfl rfl rfl rfl rfl ?_; refine At.ld 0 rfl rfl rfl rfl rfl rfl rfl rfl rfl ?_; refine At.fa 0 rfl rfl rfl rfl rfl rfl rfl ?_; refine At.ld 0 rfl rfl rfl rfl rfl rfl rfl rfl rfl ?_; refine At.v rfl rfl rfl rfl rfl (by assumption) ?_; refine At.v rfl rfl rfl rfl rfl trivial ?_
    refine At.fa 1 rfl rfl rfl rfl rfl rfl rfl ?_; refine At.ld 0 rfl rfl rfl rfl rfl rfl rfl rfl rfl ?_; refine At.q rfl rfl rfl rfl (q_build rfl rfl rfl) ?_; refine At.cqb rfl rfl rfl rfl rfl rfl rfl rfl (s103 L _) fun b64 h64 => ?_; refine At.regionEnd ?_
    have e64 : bendLess (bendAt f l j) acc = b64 := by rw [hbj]; exact h64
    rw [e64, hbj] at ag
    clear em e64
    cases b64
    · simp only [Bool.false_eq_true, if_false] at ag
      refine At.cond rfl ?_; refine At.skip ?_; refine At.inBlock ?_; refine At.region ?_; refine At.v rfl rfl rfl rfl rfl trivial ?_; refine At.v rfl rfl rfl rfl rfl (by omega) ?_; refine At.v rfl rfl rfl rfl rfl trivial ?_; refine At.regionEnd ?_
      refine At.tA (ag)
    · simp only [if_true] at ag
      refine At.cond rfl ?_; refine At.drawJ hmix [1] rfl ?_; refine Pool.fa 0 0 rfl rfl rfl rfl rfl rfl rfl rfl rfl ?_; refine Pool.ld 3 1 rfl rfl rfl rfl rfl rfl rfl rfl rfl rfl rfl ?_; refine Pool.v 2 rfl rfl rfl rfl rfl rfl rfl trivial ?_; refine Pool.v 3 rfl rfl rfl rfl rfl rfl rfl (by assumption) ?_; refine Pool.ld 0 4 rfl rfl rfl rfl rfl rfl rfl rfl rfl rfl rfl ?_; refine Pool.v 5 rfl rfl rfl rfl rfl rfl rfl trivial ?_
      refine Pool.st 1 6 rfl rfl rfl rfl rfl rfl rfl rfl rfl rfl rfl rfl rfl rfl rfl rfl rfl rfl sb ?_; refine pool_done rfl rfl ?_; refine At.regionEnd ?_; refine At.inBlock ?_; refine At.region ?_; refine At.v rfl rfl rfl rfl rfl trivial ?_; refine At.v rfl rfl rfl rfl rfl (by omega) ?_; refine At.v rfl rfl rfl rfl rfl trivial ?_; refine At.regionEnd ?_
      refine At.tA (ag)
set_option maxRecDepth 100000 in
set_option maxHeartbeats 4000000 in
/-- Keeps (ref02) -/
theorem s37 (L : Lg Tryz.prog main) (H : Facts) {B : Bk} {A : BkA} {s : R2} {row : Int} (hB : BkR H B A) (hlp : B.prof.length ≤ 100000) (hlm : B.marks.length ≤ 100000) :
    Grows L 37 #[bkV B A, rV s, .int .i64 row] H (fun v sf => ∃ a cap, v = .tuple #[.slice a (if lookBar B [slopeBar s.1 s.2, hBar row] ≠ 0 then [] else keepsM B s row 91).length cap, .int .i64 (lookBar B [slopeBar s.1 s.2, hBar row])] ∧
      Sl c1 3 (.slice a (if lookBar B [slopeBar s.1 s.2, hBar row] ≠ 0 then [] else keepsM B s row 91).length cap) (if lookBar B [slopeBar s.1 s.2, hBar row] ≠ 0 then [] else keepsM B s row 91) sf) := by
  refine Spec.enter Tryz.func37 rfl (by simp [Tryz.f37]) fun c cs hc => ?_; refine At.seq (At.region ?_); refine At.bx rfl rfl rfl rfl rfl rfl rfl fun r3 => ?_; refine At.bx rfl rfl rfl rfl rfl rfl rfl fun r4 => ?_; (iterate 2 refine At.v rfl rfl rfl rfl rfl trivial ?_); refine At.regionEnd (At.seq (At.seq (At.region ?_))); refine At.ld 1 rfl rfl rfl rfl rfl rfl rfl rfl rfl ?_; refine At.cq rfl rfl rfl rfl rfl rfl rfl rfl (s24 L _ bs bs bs) ?_; refine At.v rfl rfl rfl rfl rfl trivial ?_
  refine At.regionEnd (At.seq (At.region ?_)); refine At.v rfl rfl rfl rfl rfl trivial ?_; refine At.cp rfl rfl rfl rfl rfl fun b15 h15 => ?_; refine At.regionEnd ?_
  cases b15
  rotate_left
  · have hz : bookBar B ≠ 0 := by simpa using h15
    rw [lookBarN hz] at hc
    simp only [if_pos hz] at hc
    refine At.cond rfl ?_; refine At.seq (At.region ?_); (iterate 3 refine At.v rfl rfl rfl rfl rfl trivial ?_); refine At.regionEnd ?_
    exact At.ret Tryz.func37 (.inr ⟨_, rfl⟩) rfl (.tmp rfl (.tmp rfl .nil)) (wk (hc _ _ (⟨[], ⟨none, 0, rfl, Sl.nil⟩, rfl⟩)))
  have hz : bookBar B = 0 := by simpa using h15
  rw [lookBar0 hz] at hc
  refine At.cond rfl ?_; refine At.skip (At.seq (At.seq (At.region ?_))); refine At.ld 0 rfl rfl rfl rfl rfl rfl rfl rfl rfl ?_; refine At.cq rfl rfl rfl rfl rfl rfl rfl rfl (s47 L _) ?_; refine At.v rfl rfl rfl rfl rfl trivial ?_; refine At.regionEnd (At.seq (At.region ?_)); refine At.v rfl rfl rfl rfl rfl trivial ?_; refine At.cp rfl rfl rfl rfl rfl fun b20 h20 => ?_; refine At.regionEnd ?_
  cases b20
  rotate_left
  · have hs : slopeBar s.1 s.2 ≠ 0 := by simpa using h20
    simp only [if_pos hs] at hc
    refine At.cond rfl ?_; refine At.seq (At.region ?_); (iterate 3 refine At.v rfl rfl rfl rfl rfl trivial ?_); refine At.regionEnd ?_
    exact At.ret Tryz.func37 (.inr ⟨_, rfl⟩) rfl (.tmp rfl (.tmp rfl .nil)) (wk (hc _ _ (⟨[], ⟨none, 0, rfl, Sl.nil⟩, rfl⟩)))
  have hs : slopeBar s.1 s.2 = 0 := by simpa using h20
  have hs' := slOk_of s hs
  simp only [hs, ne_eq, not_true_eq_false, if_false] at hc
  clear hs
  refine At.cond rfl ?_; refine At.skip (At.seq (At.seq (At.region ?_))); refine At.v rfl rfl rfl rfl rfl trivial ?_; refine At.cqb rfl rfl rfl rfl rfl rfl rfl rfl (s89 L _) fun b23 h23 => ?_; refine At.v rfl rfl rfl rfl rfl trivial ?_; refine At.regionEnd ?_
  cases b23
  · have he : hBar row = 1 := by simp at h23; unfold hBar; rw [if_neg (by omega)]
    simp only [he] at hc
    refine At.cond rfl ?_; refine At.seq (At.region ?_); (iterate 2 refine At.v rfl rfl rfl rfl rfl trivial ?_); refine At.regionEnd ?_
    exact At.ret Tryz.func37 (.inr ⟨_, rfl⟩) rfl (.tmp rfl (.tmp rfl .nil)) (wk (hc _ _ (⟨[], ⟨none, 0, rfl, Sl.nil⟩, rfl⟩)))
  have he' : EyeOk row := by simp at h23; unfold EyeOk; omega
  have he : hBar row = 0 := if_pos he'
  simp only [he, ne_eq, not_true_eq_false, if_false] at hc
  refine At.cond rfl ?_; refine At.skip (At.seq (At.region ?_)); refine At.v rfl rfl rfl rfl rfl trivial ?_; refine At.regionEnd (At.seq (At.seq (At.region ?_))); refine At.v rfl rfl rfl rfl rfl trivial ?_; refine At.regionEnd ?_; refine At.block ?_
  refine At.lpk (X := { x : Nat × Value × Facts // x.1 ≤ 91 ∧ Sl c1 3 x.2.1 (keepsM B s row x.1) x.2.2 }) [2, 3, 4, 6, 7] (fun x => [(11, .int .i64 (x.1.1 : Int)), (10, x.1.2.1)]) (fun x => .own r4 (.cells (List.toArray (c2 s)) 29 (0, 0)) :: .own r3 (.cells (List.toArray (bkC B A)) 27 (0, 0)) :: (x.1.2.2 ++ H)) (fun x => 91 - x.1.1) (⟨(0, .slice none 0 0, []), by simp, Sl.nil⟩) rfl ?_ (by repeat (first | exact trivial | refine ⟨rfl, ?_⟩)) sb
  rintro ⟨⟨j, v, sf⟩, hj, hsl⟩ again
  simp only at again hj hsl ⊢
  have hsucc := keepsM_succ B s row j
  refine At.seq (At.seq (At.region ?_)); refine At.v rfl rfl rfl rfl rfl trivial ?_; refine At.cp rfl rfl rfl rfl rfl fun b26 h26 => ?_; refine At.regionEnd ?_
  cases b26
  · have e : j = 91 := by simp at h26; omega
    subst e
    obtain ⟨a, cap, rfl⟩ := hsl.slice
    refine At.cond rfl ?_; refine At.exit rfl ?_; refine At.seq (At.region ?_); (iterate 3 refine At.v rfl rfl rfl rfl rfl trivial ?_); refine At.regionEnd ?_
    exact At.ret Tryz.func37 (.inr ⟨_, rfl⟩) rfl (.tmp rfl (.tmp rfl .nil)) (wk (hc _ _ (⟨sf, ⟨a, cap, rfl, hsl⟩, rfl⟩)))
  · have hlt : j < 91 := by simp at h26; omega
    have he2 : EyeOk (j : Int) := by unfold EyeOk; omega
    refine At.cond rfl ?_; refine At.skip (At.seq ?_); refine At.block ?_; refine At.seq (At.region ?_); refine At.ld 1 rfl rfl rfl rfl rfl rfl rfl rfl rfl ?_; refine At.v rfl rfl rfl rfl rfl trivial ?_; refine At.ld 0 rfl rfl rfl rfl rfl rfl rfl rfl rfl ?_; refine At.cq rfl rfl rfl rfl rfl rfl rfl rfl (s115 L _ bs bs bs bs) ?_; refine At.v rfl rfl rfl rfl rfl trivial ?_; refine At.cp rfl rfl rfl rfl rfl fun b34 h34 => ?_; refine At.regionEnd ?_
    cases b34
    · rw [if_neg (by simpa using h34), List.append_nil] at hsucc
      refine At.cond rfl ?_; refine At.skip ?_; refine At.inBlock ?_; refine At.region ?_; refine At.v rfl rfl rfl rfl rfl trivial ?_; refine At.v rfl rfl rfl rfl rfl (by omega) ?_; refine At.v rfl rfl rfl rfl rfl trivial ?_; refine At.regionEnd ?_
      refine At.tA ((again ⟨(j + 1, v, sf), hlt, by rw [hsucc]; exact hsl⟩ (by simp; omega)))
    · rw [if_pos (by simpa using h34)] at hsucc
      refine At.cond rfl ?_; refine At.region ?_; (iterate 2 refine At.v rfl rfl rfl rfl rfl trivial ?_)
      (refine At.l rfl rfl rfl rfl (l_buildSlice rfl rfl rfl rfl rfl) ?_; rintro _ _ ⟨r37, rfl, rfl⟩)
      refine At.push (x := (j : Int)) 0 3 rfl rfl rfl rfl rfl rfl rfl rfl rfl rfl rfl rfl rfl rfl hsl rfl rfl rfl ?_ fun v sf hs => ?_
      · unfold keepsM
        refine Nat.lt_of_le_of_lt (List.length_filter_le _ _) ?_
        simp; omega
      · rw [← hsucc] at hs
        refine At.v rfl rfl rfl rfl rfl trivial ?_; refine At.regionEnd ?_; refine At.inBlock ?_; refine At.region ?_; refine At.v rfl rfl rfl rfl rfl trivial ?_; refine At.v rfl rfl rfl rfl rfl (by omega) ?_; refine At.v rfl rfl rfl rfl rfl trivial ?_; refine At.regionEnd ?_
        refine At.tA ((again ⟨(j + 1, v, sf), hlt, hs⟩ (by simp; omega)))
end Go.Gx
end

section
set_option linter.unusedSimpArgs false
set_option linter.unusedVariables false
namespace Go.Gx
open Go Go.Conc Go.Proofs

theorem thing_len {B : Bk} {eye : Int} {f t : Int × R2} : (thingM B eye f t).1.length ≤ 100000 := by
  unfold thingM
  split
  · simp
  · rename_i h
    have hs := (look20 (Classical.not_not.1 h)).2.2
    obtain ⟨hf, ht, hlt, _, _⟩ := sights0 hs
    split
    · simp
    · rename_i l hl
      have := thingTo_len hl
      unfold SightOk at hf ht
      simp only
      omega
theorem keeps_len {B : Bk} {s : R2} {row : Int} : (if lookBar B [slopeBar s.1 s.2, hBar row] ≠ 0 then [] else keepsM B s row 91).length ≤ 100000 := by
  split
  · simp
  · unfold keepsM
    refine Nat.le_trans (List.length_filter_le _ _) ?_
    simp
set_option maxRecDepth 100000 in
set_option maxHeartbeats 4000000 in
/-- CanvasThings -/
theorem s4 {Post : Value → World → Prop} {W₀ : World} {H Hg : Facts} (hG : Glo H Hg) {B : Bk} {A : BkA} (hBk : BkR H B A) {eye row : Int} {f t : Int × R2} {s : R2} :
    LawAt (mainLg Tryz.prog Post W₀ [] []) 4 #[bkV B A, .int .i64 eye, .agg #[.int .i64 f.1, .int .i64 f.2.1, .int .i64 f.2.2], .agg #[.int .i64 t.1, .int .i64 t.2.1, .int .i64 t.2.2], .agg #[.int .i64 s.1, .int .i64 s.2], .int .i64 row] H (.bool true) := by
  refine LawAt.enter Tryz.func4 rfl (by simp [Tryz.f4]) fun cs hLB => ?_
  obtain ⟨pa, pc, ma, mc⟩ := A
  generalize hL : mainLg Tryz.prog Post W₀ [] [] = L at hLB ⊢
  refine At.seq (At.region ?_); refine At.bx rfl rfl rfl rfl rfl rfl rfl fun r6 => ?_; refine At.bx rfl rfl rfl rfl rfl rfl rfl fun r8 => ?_; refine At.bx rfl rfl rfl rfl rfl rfl rfl fun r9 => ?_; refine At.bx rfl rfl rfl rfl rfl rfl rfl fun r10 => ?_; refine At.v rfl rfl rfl rfl rfl trivial ?_; refine At.regionEnd (At.seq (At.seq (At.region ?_))); refine At.ld 3 rfl rfl rfl rfl rfl rfl rfl rfl rfl ?_; refine At.cqb rfl rfl rfl rfl rfl rfl rfl rfl (s21 L _) fun b28 h28 => ?_; refine At.regionEnd ?_
  cases b28
  rotate_left
  · have stop22 := trivial
    refine At.cond rfl ?_; refine At.seq (At.region ?_)
    subst hL
    refine At.cq rfl rfl rfl rfl rfl rfl rfl rfl (s22 hG.a) ?_; refine At.v rfl rfl rfl rfl rfl trivial ?_; refine At.regionEnd ?_
    exact hLB Tryz.func4 (.inr ⟨_, rfl⟩) rfl (.tmp rfl .nil) (⟨by rfl, rfl⟩)
  have hl1 : B.prof.length ≤ 100000 := by simp at h28; omega
  have hl2 : B.marks.length ≤ 100000 := by simp at h28; omega
  have hg : Cells H 0 0 chkC := hG.g.a hG.sub
  have hO : Opn H B ⟨pa, pc, ma, mc⟩ := ⟨hg, hBk, hl1, hl2⟩
  have hkl := keeps_len (B := B) (s := s) (row := row)
  have htl := thing_len (B := B) (eye := eye) (f := f) (t := t)
  have h34 := fun H_ (hO_ : Opn H_ B ⟨pa, pc, ma, mc⟩) => s34 L H_ (eye := eye) (f := f) (t := t) hO_
  have h35 := fun H_ (hB_ : BkR H_ B ⟨pa, pc, ma, mc⟩) => s35 L H_ (eye := eye) (f := f) (t := t) hB_ hl1 hl2
  have h32 := fun H_ (hO_ : Opn H_ B ⟨pa, pc, ma, mc⟩) => s32 L H_ (eye := eye) (f := f) (t := t) hO_
  have h33 := fun H_ (hB_ : BkR H_ B ⟨pa, pc, ma, mc⟩) => s33 L H_ (eye := eye) (f := f) (t := t) hB_ hl1 hl2
  have h36 := fun H_ (hO_ : Opn H_ B ⟨pa, pc, ma, mc⟩) => s36 L H_ (s := s) (row := row) hO_
  have h37 := fun H_ (hB_ : BkR H_ B ⟨pa, pc, ma, mc⟩) => s37 L H_ (s := s) (row := row) hB_ hl1 hl2
  generalize bendM B eye f t = bd at h34 h35
  generalize thingM B eye f t = th at h32 h33 htl
  generalize (if lookBar B [slopeBar s.1 s.2, hBar row] ≠ 0 then [] else keepsM B s row 91) = ks at h36 h37 hkl
  generalize lookBar B [slopeBar s.1 s.2, hBar row] = kb at h36 h37
  have stop32 := trivial
  refine At.cond rfl ?_; refine At.skip (At.seq (At.region ?_)); refine At.ld 3 rfl rfl rfl rfl rfl rfl rfl rfl rfl ?_; refine At.v rfl rfl rfl rfl rfl trivial ?_; refine At.ld 2 rfl rfl rfl rfl rfl rfl rfl rfl rfl ?_; refine At.ld 1 rfl rfl rfl rfl rfl rfl rfl rfl rfl ?_
  clear stop32
  refine At.cl rfl rfl rfl rfl rfl rfl rfl rfl (h32 _ hO.a) ?_
  rintro _ _ ⟨sf, ⟨a1, cap1, rfl, hsl1⟩, rfl⟩
  refine At.back ?_
  have stop33 := trivial
  (iterate 5 refine At.v rfl rfl rfl rfl rfl trivial ?_); refine At.regionEnd (At.seq (At.region ?_)); refine At.ld 3 rfl rfl rfl rfl rfl rfl rfl rfl rfl ?_; refine At.v rfl rfl rfl rfl rfl trivial ?_; refine At.ld 2 rfl rfl rfl rfl rfl rfl rfl rfl rfl ?_; refine At.ld 1 rfl rfl rfl rfl rfl rfl rfl rfl rfl ?_
  clear stop33
  refine At.cl rfl rfl rfl rfl rfl rfl rfl rfl (h33 _ hBk.a) ?_
  rintro _ _ ⟨sf2, ⟨a2, cap2, rfl, hsl2⟩, rfl⟩
  refine At.back ?_
  have stop34 := trivial
  (iterate 5 refine At.v rfl rfl rfl rfl rfl trivial ?_); refine At.regionEnd (At.seq (At.region ?_)); refine At.ld 3 rfl rfl rfl rfl rfl rfl rfl rfl rfl ?_; refine At.v rfl rfl rfl rfl rfl trivial ?_; refine At.ld 2 rfl rfl rfl rfl rfl rfl rfl rfl rfl ?_; refine At.ld 1 rfl rfl rfl rfl rfl rfl rfl rfl rfl ?_
  clear stop34
  refine At.cq rfl rfl rfl rfl rfl rfl rfl rfl (h34 _ hO.a) ?_
  have stop35 := trivial
  (iterate 4 refine At.v rfl rfl rfl rfl rfl trivial ?_); refine At.al rfl rfl rfl rfl rfl fun r18 => ?_; refine At.v rfl rfl rfl rfl rfl trivial ?_; refine At.st 0 rfl rfl rfl rfl rfl rfl rfl rfl rfl rfl rfl rfl ?_; refine At.v rfl rfl rfl rfl rfl trivial ?_; refine At.regionEnd (At.seq (At.region ?_)); refine At.ld 4 rfl rfl rfl rfl rfl rfl rfl rfl rfl ?_; refine At.v rfl rfl rfl rfl rfl trivial ?_; refine At.ld 3 rfl rfl rfl rfl rfl rfl rfl rfl rfl ?_
  refine At.ld 2 rfl rfl rfl rfl rfl rfl rfl rfl rfl ?_
  clear stop35
  refine At.cq rfl rfl rfl rfl rfl rfl rfl rfl (h35 _ hBk.a) ?_
  have stop36 := trivial
  (iterate 4 refine At.v rfl rfl rfl rfl rfl trivial ?_); refine At.al rfl rfl rfl rfl rfl fun r21 => ?_; refine At.v rfl rfl rfl rfl rfl trivial ?_; refine At.st 0 rfl rfl rfl rfl rfl rfl rfl rfl rfl rfl rfl rfl ?_; refine At.v rfl rfl rfl rfl rfl trivial ?_; refine At.regionEnd (At.seq (At.region ?_)); refine At.ld 5 rfl rfl rfl rfl rfl rfl rfl rfl rfl ?_; refine At.ld 2 rfl rfl rfl rfl rfl rfl rfl rfl rfl ?_; refine At.v rfl rfl rfl rfl rfl trivial ?_
  clear stop36
  refine At.cl rfl rfl rfl rfl rfl rfl rfl rfl (h36 _ hO.a) ?_
  rintro _ _ ⟨sf3, ⟨a3, cap3, rfl, hsl3⟩, rfl⟩
  refine At.back ?_
  have stop37 := trivial
  (iterate 5 refine At.v rfl rfl rfl rfl rfl trivial ?_); refine At.regionEnd (At.seq (At.region ?_)); refine At.ld 5 rfl rfl rfl rfl rfl rfl rfl rfl rfl ?_; refine At.ld 2 rfl rfl rfl rfl rfl rfl rfl rfl rfl ?_; refine At.v rfl rfl rfl rfl rfl trivial ?_
  clear stop37
  refine At.cl rfl rfl rfl rfl rfl rfl rfl rfl (h37 _ hBk.a) ?_
  rintro _ _ ⟨sf4, ⟨a4, cap4, rfl, hsl4⟩, rfl⟩
  refine At.back ?_
  obtain ⟨_, r1, _⟩ := hsl1.rd
  obtain ⟨_, r2, _⟩ := hsl2.rd
  obtain ⟨_, r3, _⟩ := hsl3.rd
  obtain ⟨_, r4, _⟩ := hsl4.rd
  have stop38 := trivial
  (iterate 5 refine At.v rfl rfl rfl rfl rfl trivial ?_); refine At.regionEnd (At.seq (At.region ?_)); (iterate 2 refine At.v rfl rfl rfl rfl rfl trivial ?_)
  clear stop38
  refine At.cq rfl rfl rfl rfl rfl rfl rfl rfl (s38 L _ (xs := th.1) (ys := th.1) rfl rfl r1.a r2.a htl) ?_
  rw [show decide (th.1 = th.1) = true by simp]
  have stop31 := trivial
  (iterate 3 refine At.v rfl rfl rfl rfl rfl trivial ?_); refine At.cp rfl rfl rfl rfl rfl fun b84 h84 => ?_; (iterate 2 refine At.v rfl rfl rfl rfl rfl trivial ?_)
  obtain rfl : b84 = true := h84.symm.trans (by simp)
  (iterate 2 refine At.v rfl rfl rfl rfl rfl trivial ?_); refine At.cp rfl rfl rfl rfl rfl fun b89 h89 => ?_; (iterate 2 refine At.v rfl rfl rfl rfl rfl trivial ?_)
  obtain rfl : b89 = true := h89.symm.trans (by simp)
  refine At.ld 1 rfl rfl rfl rfl rfl rfl rfl rfl rfl ?_; refine At.ld 0 rfl rfl rfl rfl rfl rfl rfl rfl rfl ?_; refine At.qb rfl rfl rfl rfl (q_eqS rfl rfl rfl rfl rfl rfl rfl rfl) fun b94 h94 => ?_; (iterate 2 refine At.v rfl rfl rfl rfl rfl trivial ?_)
  obtain rfl : b94 = true := h94.symm.trans (by simp)
  (iterate 2 refine At.v rfl rfl rfl rfl rfl trivial ?_); refine At.cp rfl rfl rfl rfl rfl fun b99 h99 => ?_; (iterate 2 refine At.v rfl rfl rfl rfl rfl trivial ?_)
  obtain rfl : b99 = true := h99.symm.trans (by simp)
  (iterate 2 refine At.v rfl rfl rfl rfl rfl trivial ?_)
  clear stop31
  refine At.cq rfl rfl rfl rfl rfl rfl rfl rfl (s31 L _ (xs := ks) (ys := ks) rfl rfl r3.a r4.a hkl) ?_
  rw [show decide (ks = ks) = true by simp]
  have stop22 := trivial
  (iterate 4 refine At.v rfl rfl rfl rfl rfl trivial ?_); refine At.cp rfl rfl rfl rfl rfl fun b109 h109 => ?_; (iterate 2 refine At.v rfl rfl rfl rfl rfl trivial ?_)
  obtain rfl : b109 = true := h109.symm.trans (by simp)
  subst hL
  refine At.cq rfl rfl rfl rfl rfl rfl rfl rfl (s22 hG.a) ?_; (iterate 2 refine At.v rfl rfl rfl rfl rfl trivial ?_); refine At.regionEnd ?_
  exact hLB Tryz.func4 (.inr ⟨_, rfl⟩) rfl (.tmp rfl .nil) (⟨by rfl, rfl⟩)
end Go.Gx
end

section
set_option linter.unusedSimpArgs false
set_option linter.unusedVariables false
namespace Go.Gx
open Go Go.Conc Go.Proofs Go.ChangeShapes Go.RowKit YtokdmiiejfmomaaGreatDoor
set_option maxRecDepth 100000
theorem ip4 : Tryz.prog.inPlace 4 = [] := by kernel_rfl
theorem uf4 : Tryz.prog.unfollowed 4 = true := by kernel_rfl
theorem rc4 : Tryz.prog.recurses 4 = true := by kernel_rfl
theorem vn4 : Tryz.prog.varsNamed 4 = ["velarium/canvas.checks"] := by kernel_rfl
theorem closed4 : joinedFacts Tryz.prog 4 Tryz.f4 Rows.canvasThingsSpec Rows.canvasThingsRow = true := by
  unfold joinedFacts
  rewrite [ip4, uf4, rc4, vn4, enter1, lf1, make1]
  kernel_rfl
theorem fnm4 : Tryz.prog.funcNamed "velarium/velariumlaw02.CanvasThings" = some 4 := by kernel_rfl
theorem inst4 : Tryz.f4.isInstance Tryz.prog Rows.canvasThingsRow.origin Rows.canvasThingsRow.targs := of_decide_eq_true (by kernel_rfl)
theorem wrap4 : Tryz.f4.isWrapper Tryz.prog Rows.canvasThingsRow.wrapper Rows.canvasThingsRow.mainSum := by unfold Func.isWrapper; first | (rw [if_pos (by decide +kernel)]; kernel_rfl) | (rw [if_neg (by decide +kernel)]; exact ⟨rfl, rfl⟩)
theorem goes4 : Tryz.prog.goes 4 = true := by kernel_rfl
theorem wbt4 : Rows.canvasThingsRow.wfByText (OpenSpec.ofChange Rows.canvasThingsSpec) = true := by kernel_rfl
theorem wants4 : (Tryz.f4.params.toList.all fun t => !Tryz.prog.wantsStandIn t) = true := by kernel_rfl
theorem lifted4 (os : Os) (started : os.Started) (H : Type) (enc : TypeId × Value → H) :
    ReturnsInLeavingWide {} Tryz.checked os 4 .any (fun w args => (Rows.canvasThingsSpec.pre enc Tryz.prog Tryz.f4 [] false w args ∧ laidMetH Tryz.prog laid1 w) ∧ sizedMet enc Tryz.prog Tryz.f4 (OpenSpec.ofChange Rows.canvasThingsSpec) false w args) (Rows.canvasThingsSpec.post enc Tryz.prog Tryz.f4 false true false false) := by
  refine law_lift Tryz.func4 (by kernel_rfl) rfl rfl (by kernel_rfl) os started H enc #[.agg #[.slice none 0 0, .int .i64 0, .int .i64 0, .int .i64 0, .slice none 0 0], .int .i64 0, .agg #[.int .i64 0, .int .i64 0, .int .i64 0], .agg #[.int .i64 0, .int .i64 0, .int .i64 0], .agg #[.int .i64 0, .int .i64 0], .int .i64 0]
    (World.shaped_of_RefB (by kernel_rfl) (by kernel_rfl)) (by kernel_rfl) (by kernel_rfl) (by kernel_rfl) ?_
  intro W base args ds ps hval hA
  rw [Tryz.params4] at hval hA
  obtain ⟨v0, vs0, d0, ds0, p0, q0, e0, rfl, rfl, h0, hA⟩ := trodAll_cons hA
  obtain ⟨v1, vs1, d1, ds1, p1, q1, rfl, rfl, rfl, h1, hA⟩ := trodAll_cons hA
  obtain ⟨v2, vs2, d2, ds2, p2, q2, rfl, rfl, rfl, h2, hA⟩ := trodAll_cons hA
  obtain ⟨v3, vs3, d3, ds3, p3, q3, rfl, rfl, rfl, h3, hA⟩ := trodAll_cons hA
  obtain ⟨v4, vs4, d4, ds4, p4, q4, rfl, rfl, rfl, h4, hA⟩ := trodAll_cons hA
  obtain ⟨v5, vs5, d5, ds5, p5, q5, rfl, rfl, rfl, h5, hA⟩ := trodAll_cons hA
  obtain ⟨rfl, rfl, rfl⟩ := trodAll_nil hA
  obtain rfl : args = #[v0, v1, v2, v3, v4, v5] := Array.toList_inj.1 e0
  obtain ⟨B0, A0, Hs0, rfl, hsh0, hb0⟩ := open_book (hval 0 27 _ rfl rfl) h0
  obtain ⟨n1, rfl, rfl, rfl, w1⟩ := open_int Tryz.underlying3 (hval 1 3 _ rfl rfl) h1
  obtain ⟨x2, rfl⟩ := open_sight (hval 2 44 _ rfl rfl) h2
  obtain ⟨x3, rfl⟩ := open_sight (hval 3 44 _ rfl rfl) h3
  obtain ⟨x4, rfl⟩ := open_ratio (hval 4 29 _ rfl rfl) h4
  obtain ⟨n5, rfl, rfl, rfl, w5⟩ := open_int Tryz.underlying3 (hval 5 3 _ rfl rfl) h5
  exact ⟨rfl, Hs0, hsh0, fun Post => s4 hsh0.glo (hb0.a (Sub.append_left _ _))⟩
theorem said4 : Rows.CanvasThingsSaid :=
  OpenClaim.holds_of_wide_leaving 4 Tryz.f4 rfl rfl rfl rfl rfl rfl rfl ⟨rfl, rfl, rfl, rfl, rfl⟩ rfl rfl rfl rfl rfl fnm4 Tryz.func4 closed4 inst4 wrap4
    (fun os started H enc _ => lifted4 os started H enc)
theorem card4 : Rows.CanvasThingsCardSaid :=
  ⟨Claim7.tied_new_at .later [.funcs] true (Claim7.new_of_sixth said4 (true, "2aeeda9e0b315eb022070bc88bc80a554dcd329f773ad53586088327a2b29430") false rfl ⟨rfl, rfl⟩ mi1 rfl
    (fun f fn hf hfn => by
      obtain rfl : f = 4 := Option.some.inj (hf.symm.trans fnm4)
      obtain rfl : fn = Tryz.f4 := Option.some.inj (hfn.symm.trans Tryz.func4)
      exact ⟨looks1.symm, wants_of wants4⟩)) wbt4, (fun _ h => by cases h), canvasThings_row_tie, (fun h => by cases h), goes_of fnm4 goes4⟩
end Go.Gx
namespace Go.Proofs.YtokdmiiejfmomaaGreatDoor
/-- THE CARD OF CanvasThings. -/
theorem canvasThings_card : Rows.CanvasThingsCardSaid := Go.Gx.card4
#print axioms canvasThings_card
end Go.Proofs.YtokdmiiejfmomaaGreatDoor
end
